import PyProof.Rows.All
import Wide.All
import OpenK.AllK
import Wide.FinOn
import KE.KStateDown
import HandS.Base
import HandS.Call
import HandS.Ends
import HandS.More
import HandS.Words
import HandS.WordsExc
import HandS.Defaults
import HandS.Head0
import HandS.Head1
import HandS.Head2
import HandS.HeadEnd
import HandS.HeadHook1
import HandS.HeadHook2
import HandS.ExcInit
import HandS.ExcField
import HandS.IsInst
import HandS.OwnEq
import HandS.ForMost
import HandS.Exc
import HandS.MakeKw
import HandS.MakeKwOnly
import HandS.Deep
import HandS.Evl
import HandS.Walk
import HandS.Zip
import HandS.TupAny
import HandS.Wide
import HandS.Style
import KE.GoesMore
import KE.GoesEnum
import HandS.Zip0
import HandS.List
import KE.KDictZip
import PySem.Challenge.RW_gunclocks_k66_whole_called_by_names
set_option Elab.async false
section
set_option linter.all false
set_option maxRecDepth 100000
set_option maxHeartbeats 0
namespace Gk
open PySem PySem.Spec PyProof.Rows L2
def top (i : Nat) : Stmt := PySem.Challenge.pw_gunclocks_k66_whole_called_by_names.main.body.getD i (.Pass ⟨0, 0, 0, 0⟩)
abbrev s_TooMany_init : Stmt := inClass (top 15) 0
def a_TooMany_init : Addr := 192
abbrev s_NoText_init : Stmt := inClass (top 16) 0
def a_NoText_init : Addr := 211
abbrev s_is_whole : Stmt := top 19
def a_is_whole : Addr := 224
abbrev s_is_from_to : Stmt := top 20
def a_is_from_to : Addr := 231
abbrev s_shared : Stmt := top 21
def a_shared : Addr := 238
abbrev s_lowest : Stmt := top 22
def a_lowest : Addr := 245
abbrev s_is_part : Stmt := top 23
def a_is_part : Addr := 252
abbrev s_need_part : Stmt := top 24
def a_need_part : Addr := 259
abbrev s_plus : Stmt := top 25
def a_plus : Addr := 266
abbrev s_minus : Stmt := top 26
def a_minus : Addr := 273
abbrev s_product : Stmt := top 27
def a_product : Addr := 280
abbrev s_below : Stmt := top 28
def a_below : Addr := 287
abbrev s_turned : Stmt := top 29
def a_turned : Addr := 294
abbrev s_part_of : Stmt := top 30
def a_part_of : Addr := 301
abbrev s_added : Stmt := top 31
def a_added : Addr := 308
abbrev s_less : Stmt := top 32
def a_less : Addr := 315
abbrev s_times : Stmt := top 33
def a_times : Addr := 322
abbrev s_is_less : Stmt := top 34
def a_is_less : Addr := 329
abbrev s_is_clock_number : Stmt := top 39
def a_is_clock_number : Addr := 336
abbrev s_need_clock_number : Stmt := top 40
def a_need_clock_number : Addr := 343
abbrev s_are_bounds : Stmt := top 41
def a_are_bounds : Addr := 350
abbrev s_is_telling : Stmt := top 42
def a_is_telling : Addr := 357
abbrev s_are_tellings : Stmt := top 43
def a_are_tellings : Addr := 362
abbrev s_need_telling : Stmt := top 44
def a_need_telling : Addr := 369
abbrev s_need_tellings : Stmt := top 45
def a_need_tellings : Addr := 376
abbrev s_is_row : Stmt := top 46
def a_is_row : Addr := 381
abbrev s_need_row : Stmt := top 47
def a_need_row : Addr := 388
abbrev s_is_kept : Stmt := top 48
def a_is_kept : Addr := 395
abbrev s_keeps : Stmt := top 49
def a_keeps : Addr := 400
abbrev s_first_broken : Stmt := top 50
def a_first_broken : Addr := 407
abbrev s_steps_of : Stmt := top 51
def a_steps_of : Addr := 414
abbrev s_is_step : Stmt := top 52
def a_is_step : Addr := 421
abbrev s_walked : Stmt := top 53
def a_walked : Addr := 426
abbrev s_way_of : Stmt := top 54
def a_way_of : Addr := 433
abbrev s_ring_holds : Stmt := top 55
def a_ring_holds : Addr := 440
abbrev s_is_ring : Stmt := top 56
def a_is_ring : Addr := 447
abbrev s_shortest : Stmt := top 58
def a_shortest : Addr := 454
abbrev s_ring_in : Stmt := top 60
def a_ring_in : Addr := 468
abbrev s_together : Stmt := top 61
def a_together : Addr := 475
abbrev s_agree : Stmt := top 62
def a_agree : Addr := 482
abbrev s_ring_of : Stmt := top 63
def a_ring_of : Addr := 489
abbrev s_need_together : Stmt := top 64
def a_need_together : Addr := 496
abbrev s_far_from : Stmt := top 65
def a_far_from : Addr := 503
abbrev s_stretch_by : Stmt := top 66
def a_stretch_by : Addr := 510
abbrev s_stretch_of : Stmt := top 67
def a_stretch_of : Addr := 518
abbrev s_great_of : Stmt := top 68
def a_great_of : Addr := 525
abbrev s_highest_row : Stmt := top 69
def a_highest_row : Addr := 530
abbrev s_lowest_row : Stmt := top 70
def a_lowest_row : Addr := 535
abbrev s_bound_to : Stmt := top 71
def a_bound_to : Addr := 542
abbrev s_is_free : Stmt := top 72
def a_is_free : Addr := 547
abbrev s_need_other_clock : Stmt := top 73
def a_need_other_clock : Addr := 554
abbrev s_stretch_paper : Stmt := top 74
def a_stretch_paper : Addr := 561
abbrev s_end_holds : Stmt := top 75
def a_end_holds : Addr := 568
abbrev s_way_holds : Stmt := top 76
def a_way_holds : Addr := 575
abbrev s_paper_holds : Stmt := top 77
def a_paper_holds : Addr := 582
abbrev s_is_gain : Stmt := top 83
def a_is_gain : Addr := 592
abbrev s_is_moment : Stmt := top 84
def a_is_moment : Addr := 599
abbrev s_is_set : Stmt := top 85
def a_is_set : Addr := 606
abbrev s_is_clock : Stmt := top 86
def a_is_clock : Addr := 611
abbrev s_need_clock : Stmt := top 87
def a_need_clock : Addr := 618
abbrev s_need_moment : Stmt := top 88
def a_need_moment : Addr := 625
abbrev s_own_error : Stmt := top 89
def a_own_error : Addr := 632
abbrev s_jumps_till : Stmt := top 90
def a_jumps_till : Addr := 639
abbrev s_drift_by : Stmt := top 91
def a_drift_by : Addr := 646
abbrev s_drift : Stmt := top 92
def a_drift : Addr := 653
abbrev s_shown_by : Stmt := top 93
def a_shown_by : Addr := 660
abbrev s_shown_at : Stmt := top 94
def a_shown_at : Addr := 668
abbrev s_stretches_of : Stmt := top 95
def a_stretches_of : Addr := 675
abbrev s_moments_of : Stmt := top 96
def a_moments_of : Addr := 683
abbrev s_changes_of : Stmt := top 97
def a_changes_of : Addr := 690
abbrev s_turned_back : Stmt := top 98
def a_turned_back : Addr := 696
abbrev s_skipped : Stmt := top 99
def a_skipped : Addr := 702
abbrev s_are_watched : Stmt := top 103
def a_are_watched : Addr := 707
abbrev s_need_watched : Stmt := top 104
def a_need_watched : Addr := 714
abbrev s_width_of : Stmt := top 105
def a_width_of : Addr := 721
abbrev s_worst_by : Stmt := top 106
def a_worst_by : Addr := 728
abbrev s_worst_of : Stmt := top 107
def a_worst_of : Addr := 735
abbrev s_without : Stmt := top 108
def a_without : Addr := 742
abbrev s_binding : Stmt := top 109
def a_binding : Addr := 749
abbrev s_all_stretches : Stmt := top 110
def a_all_stretches : Addr := 754
abbrev s_needless : Stmt := top 111
def a_needless : Addr := 761
abbrev s_need_few : Stmt := top 112
def a_need_few : Addr := 768
abbrev s_best_offer : Stmt := top 113
def a_best_offer : Addr := 773
abbrev s_need_asked : Stmt := top 114
def a_need_asked : Addr := 780
abbrev s_free_in : Stmt := top 115
def a_free_in : Addr := 787
abbrev s_wide_in : Stmt := top 116
def a_wide_in : Addr := 794
abbrev s_reason_for : Stmt := top 117
def a_reason_for : Addr := 802
abbrev s_is_wide : Stmt := top 118
def a_is_wide : Addr := 809
abbrev s_reason_holds : Stmt := top 119
def a_reason_holds : Addr := 816
abbrev s_are_gains : Stmt := top 122
def a_are_gains : Addr := 821
abbrev s_moved : Stmt := top 123
def a_moved : Addr := 828
abbrev s_Post_init : Stmt := inClass (top 124) 0
def a_Post_init : Addr := 840
abbrev s_Post_taken_back : Stmt := inClass (top 124) 1
def a_Post_taken_back : Addr := 847
abbrev s_Post_become : Stmt := inClass (top 124) 2
def a_Post_become : Addr := 854
abbrev s_Post_tells : Stmt := inClass (top 124) 3
def a_Post_tells : Addr := 862
abbrev s_Post_sets : Stmt := inClass (top 124) 4
def a_Post_sets : Addr := 867
abbrev s_Post_calls_false : Stmt := inClass (top 124) 5
def a_Post_calls_false : Addr := 872
abbrev s_Post_stretch_at : Stmt := inClass (top 124) 7
def a_Post_stretch_at : Addr := 887
abbrev s_Post_stretch_then : Stmt := inClass (top 124) 8
def a_Post_stretch_then : Addr := 894
abbrev s_Post_standing : Stmt := inClass (top 124) 9
def a_Post_standing : Addr := 899
abbrev s_Post_clock_now : Stmt := inClass (top 124) 10
def a_Post_clock_now : Addr := 906
abbrev s_Post_error_by : Stmt := inClass (top 124) 12
def a_Post_error_by : Addr := 920
abbrev s_Post_len : Stmt := inClass (top 124) 13
def a_Post_len : Addr := 927
abbrev s_Post_eq : Stmt := inClass (top 124) 14
def a_Post_eq : Addr := 934
abbrev s_law_cell_at : Stmt := top 126
def a_law_cell_at : Addr := 953
abbrev s_law_next : Stmt := top 127
def a_law_next : Addr := 960
abbrev s_law_pen_of : Stmt := top 128
def a_law_pen_of : Addr := 967
abbrev s_law_draw : Stmt := top 129
def a_law_draw : Addr := 974
abbrev s_law_some : Stmt := top 130
def a_law_some : Addr := 981
abbrev s_law_dial : Stmt := top 131
def a_law_dial : Addr := 988
abbrev s_law_told : Stmt := top 132
def a_law_told : Addr := 995
abbrev s_law_parts_right : Stmt := top 133
def a_law_parts_right : Addr := 1002
abbrev s_law_dials_right : Stmt := top 134
def a_law_dials_right : Addr := 1009
abbrev s_law_sheets_right : Stmt := top 135
def a_law_sheets_right : Addr := 1016
abbrev s_law_bids_right : Stmt := top 136
def a_law_bids_right : Addr := 1023
abbrev s_law_posts_right : Stmt := top 137
def a_law_posts_right : Addr := 1030
abbrev s_law : Stmt := top 138
def a_law : Addr := 1035
def as0 : List Addr := [3, 2, 942, 941, 195, 194, 214, 213, 31, 30, 192, 191, 211, 210, 840, 839, 847, 846, 854, 853, 862, 861, 855, 867, 866, 872, 871, 887, 886, 880, 894, 893, 899, 898, 906, 905, 920, 919, 927, 926, 934, 933, 217, 583, 584, 585, 224, 223, 231, 230, 238, 237, 245, 244, 252, 251, 259, 258, 266, 265]
def as1 : List Addr := [273, 272, 280, 279, 287, 286, 294, 293, 301, 300, 308, 307, 315, 314, 322, 321, 329, 328, 336, 335, 343, 342, 350, 349, 357, 356, 362, 361, 369, 368, 376, 375, 381, 380, 388, 387, 395, 394, 400, 399, 407, 406, 414, 413, 421, 420, 426, 425, 433, 432, 440, 439, 447, 446, 454, 453, 468, 467, 475, 474]
def as2 : List Addr := [482, 481, 489, 488, 496, 495, 503, 502, 510, 509, 518, 517, 511, 525, 524, 530, 529, 535, 534, 542, 541, 547, 546, 554, 553, 561, 560, 568, 567, 575, 574, 582, 581, 592, 591, 599, 598, 606, 605, 611, 610, 618, 617, 625, 624, 632, 631, 639, 638, 646, 645, 653, 652, 660, 659, 668, 667, 661, 675, 674]
def as3 : List Addr := [683, 682, 676, 690, 689, 696, 695, 691, 702, 701, 697, 707, 706, 714, 713, 721, 720, 728, 727, 735, 734, 742, 741, 749, 748, 754, 753, 761, 760, 768, 767, 773, 772, 780, 779, 787, 786, 794, 793, 802, 801, 795, 809, 808, 816, 815, 821, 820, 828, 827, 953, 952, 960, 959, 967, 966, 974, 973, 981, 980]
def as4 : List Addr := [988, 987, 995, 994, 1002, 1001, 1009, 1008, 1016, 1015, 1023, 1022, 1030, 1029, 1035, 1034]
def as : List Addr := as0 ++ as1 ++ as2 ++ as3 ++ as4
/-- a def as it is seen: where it and its code stand, its names, its text, its defaults -/
structure Fd where
  f : Addr
  c : Addr
  name : Str
  qual : Str
  st : Stmt
  dv : Value
abbrev Seen : Type := Option (Str × Str × Arguments × FuncBody × Scope × Addr × List (Str × Addr) × Addr × Value × Value)
def Fd.want (d : Fd) : Seen := some (d.name, d.qual, defArgs d.st, .stmts (defBody d.st), defScope d.st, mainGlobals, [], builtinsNs, .ref d.c, d.dv)
def Fd.seen (g : Addr → Option Obj) (d : Fd) : Seen := match g d.f with
  | some ⟨_, _, .func fd, _⟩ => some (fd.name, fd.qualname, fd.params, fd.body, fd.scope, fd.globals, fd.closure, fd.builtins, fd.code, fd.defaults)
  | _ => none
def Fd.code (g : Addr → Option Obj) (d : Fd) : Bool := match g d.c with
  | some ⟨_, _, .fields vs, _⟩ => (match vs.toList with | _ :: .str n _ :: _ => n == d.qual | _ => false)
  | _ => false
def d_TooMany_init : Fd := ⟨192, 191, "__init__", "TooMany.__init__", s_TooMany_init, .none⟩
def d_NoText_init : Fd := ⟨211, 210, "__init__", "NoText.__init__", s_NoText_init, .none⟩
def d_is_whole : Fd := ⟨224, 223, "is_whole", "is_whole", s_is_whole, .none⟩
def d_is_from_to : Fd := ⟨231, 230, "is_from_to", "is_from_to", s_is_from_to, .none⟩
def d_shared : Fd := ⟨238, 237, "shared", "shared", s_shared, .none⟩
def d_lowest : Fd := ⟨245, 244, "lowest", "lowest", s_lowest, .none⟩
def d_is_part : Fd := ⟨252, 251, "is_part", "is_part", s_is_part, .none⟩
def d_need_part : Fd := ⟨259, 258, "need_part", "need_part", s_need_part, .none⟩
def d_plus : Fd := ⟨266, 265, "plus", "plus", s_plus, .none⟩
def d_minus : Fd := ⟨273, 272, "minus", "minus", s_minus, .none⟩
def d_product : Fd := ⟨280, 279, "product", "product", s_product, .none⟩
def d_below : Fd := ⟨287, 286, "below", "below", s_below, .none⟩
def d_turned : Fd := ⟨294, 293, "turned", "turned", s_turned, .none⟩
def d_part_of : Fd := ⟨301, 300, "part_of", "part_of", s_part_of, .none⟩
def d_added : Fd := ⟨308, 307, "added", "added", s_added, .none⟩
def d_less : Fd := ⟨315, 314, "less", "less", s_less, .none⟩
def d_times : Fd := ⟨322, 321, "times", "times", s_times, .none⟩
def d_is_less : Fd := ⟨329, 328, "is_less", "is_less", s_is_less, .none⟩
def d_is_clock_number : Fd := ⟨336, 335, "is_clock_number", "is_clock_number", s_is_clock_number, .none⟩
def d_need_clock_number : Fd := ⟨343, 342, "need_clock_number", "need_clock_number", s_need_clock_number, .none⟩
def d_are_bounds : Fd := ⟨350, 349, "are_bounds", "are_bounds", s_are_bounds, .none⟩
def d_is_telling : Fd := ⟨357, 356, "is_telling", "is_telling", s_is_telling, .none⟩
def d_are_tellings : Fd := ⟨362, 361, "are_tellings", "are_tellings", s_are_tellings, .none⟩
def d_need_telling : Fd := ⟨369, 368, "need_telling", "need_telling", s_need_telling, .none⟩
def d_need_tellings : Fd := ⟨376, 375, "need_tellings", "need_tellings", s_need_tellings, .none⟩
def d_is_row : Fd := ⟨381, 380, "is_row", "is_row", s_is_row, .none⟩
def d_need_row : Fd := ⟨388, 387, "need_row", "need_row", s_need_row, .none⟩
def d_is_kept : Fd := ⟨395, 394, "is_kept", "is_kept", s_is_kept, .none⟩
def d_keeps : Fd := ⟨400, 399, "keeps", "keeps", s_keeps, .none⟩
def d_first_broken : Fd := ⟨407, 406, "first_broken", "first_broken", s_first_broken, .none⟩
def d_steps_of : Fd := ⟨414, 413, "steps_of", "steps_of", s_steps_of, .none⟩
def d_is_step : Fd := ⟨421, 420, "is_step", "is_step", s_is_step, .none⟩
def d_walked : Fd := ⟨426, 425, "walked", "walked", s_walked, .none⟩
def d_way_of : Fd := ⟨433, 432, "way_of", "way_of", s_way_of, .none⟩
def d_ring_holds : Fd := ⟨440, 439, "ring_holds", "ring_holds", s_ring_holds, .none⟩
def d_is_ring : Fd := ⟨447, 446, "is_ring", "is_ring", s_is_ring, .none⟩
def d_shortest : Fd := ⟨454, 453, "shortest", "shortest", s_shortest, .none⟩
def d_ring_in : Fd := ⟨468, 467, "ring_in", "ring_in", s_ring_in, .none⟩
def d_together : Fd := ⟨475, 474, "together", "together", s_together, .none⟩
def d_agree : Fd := ⟨482, 481, "agree", "agree", s_agree, .none⟩
def d_ring_of : Fd := ⟨489, 488, "ring_of", "ring_of", s_ring_of, .none⟩
def d_need_together : Fd := ⟨496, 495, "need_together", "need_together", s_need_together, .none⟩
def d_far_from : Fd := ⟨503, 502, "far_from", "far_from", s_far_from, .none⟩
def d_stretch_by : Fd := ⟨510, 509, "stretch_by", "stretch_by", s_stretch_by, .none⟩
def d_stretch_of : Fd := ⟨518, 517, "stretch_of", "stretch_of", s_stretch_of, .ref 511⟩
def d_great_of : Fd := ⟨525, 524, "great_of", "great_of", s_great_of, .none⟩
def d_highest_row : Fd := ⟨530, 529, "highest_row", "highest_row", s_highest_row, .none⟩
def d_lowest_row : Fd := ⟨535, 534, "lowest_row", "lowest_row", s_lowest_row, .none⟩
def d_bound_to : Fd := ⟨542, 541, "bound_to", "bound_to", s_bound_to, .none⟩
def d_is_free : Fd := ⟨547, 546, "is_free", "is_free", s_is_free, .none⟩
def d_need_other_clock : Fd := ⟨554, 553, "need_other_clock", "need_other_clock", s_need_other_clock, .none⟩
def d_stretch_paper : Fd := ⟨561, 560, "stretch_paper", "stretch_paper", s_stretch_paper, .none⟩
def d_end_holds : Fd := ⟨568, 567, "end_holds", "end_holds", s_end_holds, .none⟩
def d_way_holds : Fd := ⟨575, 574, "way_holds", "way_holds", s_way_holds, .none⟩
def d_paper_holds : Fd := ⟨582, 581, "paper_holds", "paper_holds", s_paper_holds, .none⟩
def d_is_gain : Fd := ⟨592, 591, "is_gain", "is_gain", s_is_gain, .none⟩
def d_is_moment : Fd := ⟨599, 598, "is_moment", "is_moment", s_is_moment, .none⟩
def d_is_set : Fd := ⟨606, 605, "is_set", "is_set", s_is_set, .none⟩
def d_is_clock : Fd := ⟨611, 610, "is_clock", "is_clock", s_is_clock, .none⟩
def d_need_clock : Fd := ⟨618, 617, "need_clock", "need_clock", s_need_clock, .none⟩
def d_need_moment : Fd := ⟨625, 624, "need_moment", "need_moment", s_need_moment, .none⟩
def d_own_error : Fd := ⟨632, 631, "own_error", "own_error", s_own_error, .none⟩
def d_jumps_till : Fd := ⟨639, 638, "jumps_till", "jumps_till", s_jumps_till, .none⟩
def d_drift_by : Fd := ⟨646, 645, "drift_by", "drift_by", s_drift_by, .none⟩
def d_drift : Fd := ⟨653, 652, "drift", "drift", s_drift, .none⟩
def d_shown_by : Fd := ⟨660, 659, "shown_by", "shown_by", s_shown_by, .none⟩
def d_shown_at : Fd := ⟨668, 667, "shown_at", "shown_at", s_shown_at, .ref 661⟩
def d_stretches_of : Fd := ⟨675, 674, "stretches_of", "stretches_of", s_stretches_of, .none⟩
def d_moments_of : Fd := ⟨683, 682, "moments_of", "moments_of", s_moments_of, .ref 676⟩
def d_changes_of : Fd := ⟨690, 689, "changes_of", "changes_of", s_changes_of, .none⟩
def d_turned_back : Fd := ⟨696, 695, "turned_back", "turned_back", s_turned_back, .ref 691⟩
def d_skipped : Fd := ⟨702, 701, "skipped", "skipped", s_skipped, .ref 697⟩
def d_are_watched : Fd := ⟨707, 706, "are_watched", "are_watched", s_are_watched, .none⟩
def d_need_watched : Fd := ⟨714, 713, "need_watched", "need_watched", s_need_watched, .none⟩
def d_width_of : Fd := ⟨721, 720, "width_of", "width_of", s_width_of, .none⟩
def d_worst_by : Fd := ⟨728, 727, "worst_by", "worst_by", s_worst_by, .none⟩
def d_worst_of : Fd := ⟨735, 734, "worst_of", "worst_of", s_worst_of, .none⟩
def d_without : Fd := ⟨742, 741, "without", "without", s_without, .none⟩
def d_binding : Fd := ⟨749, 748, "binding", "binding", s_binding, .none⟩
def d_all_stretches : Fd := ⟨754, 753, "all_stretches", "all_stretches", s_all_stretches, .none⟩
def d_needless : Fd := ⟨761, 760, "needless", "needless", s_needless, .none⟩
def d_need_few : Fd := ⟨768, 767, "need_few", "need_few", s_need_few, .none⟩
def d_best_offer : Fd := ⟨773, 772, "best_offer", "best_offer", s_best_offer, .none⟩
def d_need_asked : Fd := ⟨780, 779, "need_asked", "need_asked", s_need_asked, .none⟩
def d_free_in : Fd := ⟨787, 786, "free_in", "free_in", s_free_in, .none⟩
def d_wide_in : Fd := ⟨794, 793, "wide_in", "wide_in", s_wide_in, .none⟩
def d_reason_for : Fd := ⟨802, 801, "reason_for", "reason_for", s_reason_for, .ref 795⟩
def d_is_wide : Fd := ⟨809, 808, "is_wide", "is_wide", s_is_wide, .none⟩
def d_reason_holds : Fd := ⟨816, 815, "reason_holds", "reason_holds", s_reason_holds, .none⟩
def d_are_gains : Fd := ⟨821, 820, "are_gains", "are_gains", s_are_gains, .none⟩
def d_moved : Fd := ⟨828, 827, "moved", "moved", s_moved, .none⟩
def d_Post_init : Fd := ⟨840, 839, "__init__", "Post.__init__", s_Post_init, .none⟩
def d_Post_taken_back : Fd := ⟨847, 846, "taken_back", "Post.taken_back", s_Post_taken_back, .none⟩
def d_Post_become : Fd := ⟨854, 853, "become", "Post.become", s_Post_become, .none⟩
def d_Post_tells : Fd := ⟨862, 861, "tells", "Post.tells", s_Post_tells, .ref 855⟩
def d_Post_sets : Fd := ⟨867, 866, "sets", "Post.sets", s_Post_sets, .none⟩
def d_Post_calls_false : Fd := ⟨872, 871, "calls_false", "Post.calls_false", s_Post_calls_false, .none⟩
def d_Post_stretch_at : Fd := ⟨887, 886, "stretch_at", "Post.stretch_at", s_Post_stretch_at, .ref 880⟩
def d_Post_stretch_then : Fd := ⟨894, 893, "stretch_then", "Post.stretch_then", s_Post_stretch_then, .none⟩
def d_Post_standing : Fd := ⟨899, 898, "standing", "Post.standing", s_Post_standing, .none⟩
def d_Post_clock_now : Fd := ⟨906, 905, "clock_now", "Post.clock_now", s_Post_clock_now, .none⟩
def d_Post_error_by : Fd := ⟨920, 919, "error_by", "Post.error_by", s_Post_error_by, .none⟩
def d_Post_len : Fd := ⟨927, 926, "__len__", "Post.__len__", s_Post_len, .none⟩
def d_Post_eq : Fd := ⟨934, 933, "__eq__", "Post.__eq__", s_Post_eq, .none⟩
def d_law_cell_at : Fd := ⟨953, 952, "_law_cell_at", "_law_cell_at", s_law_cell_at, .none⟩
def d_law_next : Fd := ⟨960, 959, "_law_next", "_law_next", s_law_next, .none⟩
def d_law_pen_of : Fd := ⟨967, 966, "_law_pen_of", "_law_pen_of", s_law_pen_of, .none⟩
def d_law_draw : Fd := ⟨974, 973, "_law_draw", "_law_draw", s_law_draw, .none⟩
def d_law_some : Fd := ⟨981, 980, "_law_some", "_law_some", s_law_some, .none⟩
def d_law_dial : Fd := ⟨988, 987, "_law_dial", "_law_dial", s_law_dial, .none⟩
def d_law_told : Fd := ⟨995, 994, "_law_told", "_law_told", s_law_told, .none⟩
def d_law_parts_right : Fd := ⟨1002, 1001, "_law_parts_right", "_law_parts_right", s_law_parts_right, .none⟩
def d_law_dials_right : Fd := ⟨1009, 1008, "_law_dials_right", "_law_dials_right", s_law_dials_right, .none⟩
def d_law_sheets_right : Fd := ⟨1016, 1015, "_law_sheets_right", "_law_sheets_right", s_law_sheets_right, .none⟩
def d_law_bids_right : Fd := ⟨1023, 1022, "_law_bids_right", "_law_bids_right", s_law_bids_right, .none⟩
def d_law_posts_right : Fd := ⟨1030, 1029, "_law_posts_right", "_law_posts_right", s_law_posts_right, .none⟩
def d_law : Fd := ⟨1035, 1034, "law", "law", s_law, .none⟩
def fd0 : List Fd := [d_TooMany_init, d_NoText_init, d_is_whole, d_is_from_to, d_shared, d_lowest, d_is_part, d_need_part, d_plus, d_minus, d_product, d_below, d_turned, d_part_of, d_added, d_less, d_times, d_is_less, d_is_clock_number, d_need_clock_number]
def fd1 : List Fd := [d_are_bounds, d_is_telling, d_are_tellings, d_need_telling, d_need_tellings, d_is_row, d_need_row, d_is_kept, d_keeps, d_first_broken, d_steps_of, d_is_step, d_walked, d_way_of, d_ring_holds, d_is_ring, d_shortest, d_ring_in, d_together, d_agree]
def fd2 : List Fd := [d_ring_of, d_need_together, d_far_from, d_stretch_by, d_stretch_of, d_great_of, d_highest_row, d_lowest_row, d_bound_to, d_is_free, d_need_other_clock, d_stretch_paper, d_end_holds, d_way_holds, d_paper_holds, d_is_gain, d_is_moment, d_is_set, d_is_clock, d_need_clock]
def fd3 : List Fd := [d_need_moment, d_own_error, d_jumps_till, d_drift_by, d_drift, d_shown_by, d_shown_at, d_stretches_of, d_moments_of, d_changes_of, d_turned_back, d_skipped, d_are_watched, d_need_watched, d_width_of, d_worst_by, d_worst_of, d_without, d_binding, d_all_stretches]
def fd4 : List Fd := [d_needless, d_need_few, d_best_offer, d_need_asked, d_free_in, d_wide_in, d_reason_for, d_is_wide, d_reason_holds, d_are_gains, d_moved, d_Post_init, d_Post_taken_back, d_Post_become, d_Post_tells, d_Post_sets, d_Post_calls_false, d_Post_stretch_at, d_Post_stretch_then, d_Post_standing]
def fd5 : List Fd := [d_Post_clock_now, d_Post_error_by, d_Post_len, d_Post_eq, d_law_cell_at, d_law_next, d_law_pen_of, d_law_draw, d_law_some, d_law_dial, d_law_told, d_law_parts_right, d_law_dials_right, d_law_sheets_right, d_law_bids_right, d_law_posts_right, d_law]
def fds : List Fd := fd0 ++ fd1 ++ fd2 ++ fd3 ++ fd4 ++ fd5
def gv : Value → Option V
  | .ref a => some (.ref a)
  | .int i _ => some (.int i)
  | _ => none
def gk (e : DictEntry) : Option Str × Option V := ((match e.key with | .str x _ => some x | _ => none), gv e.val)
def gdict (g : Addr → Option Obj) : Option (List (Option Str × Option V)) := match g 3 with
  | some ⟨_, _, .dict es _, _⟩ => some (es.toList.map gk)
  | _ => none
def gl0 : List (Option Str × Option V) := [(some "__name__", none), (some "__doc__", none), (some "__package__", none), (some "__loader__", none), (some "__spec__", none), (some "__annotations__", some (.ref 6)), (some "__builtins__", some (.ref 4)), (some "__file__", none), (some "__cached__", none), (some "_wall", some (.ref 21)), (some "ClockError", some (.ref 31)), (some "NoPart", some (.ref 44)), (some "NoNumber", some (.ref 56)), (some "NoMoment", some (.ref 68)), (some "NoClock", some (.ref 80)), (some "NoHour", some (.ref 92)), (some "NoTelling", some (.ref 104)), (some "NoTellings", some (.ref 116)), (some "NoRow", some (.ref 128)), (some "Apart", some (.ref 140))]
def gl1 : List (Option Str × Option V) := [(some "Twice", some (.ref 152)), (some "Missing", some (.ref 164)), (some "NoDeed", some (.ref 176)), (some "TooMany", some (.ref 195)), (some "NoText", some (.ref 214)), (some "NOUGHT", some (.ref 217)), (some "is_whole", some (.ref 224)), (some "is_from_to", some (.ref 231)), (some "shared", some (.ref 238)), (some "lowest", some (.ref 245)), (some "is_part", some (.ref 252)), (some "need_part", some (.ref 259)), (some "plus", some (.ref 266)), (some "minus", some (.ref 273)), (some "product", some (.ref 280)), (some "below", some (.ref 287)), (some "turned", some (.ref 294)), (some "part_of", some (.ref 301)), (some "added", some (.ref 308)), (some "less", some (.ref 315))]
def gl2 : List (Option Str × Option V) := [(some "times", some (.ref 322)), (some "is_less", some (.ref 329)), (some "CLOCKS", some (.int 6)), (some "MOST_TELLINGS", some (.int 16)), (some "MOST_STEPS", some (.int 60)), (some "is_clock_number", some (.ref 336)), (some "need_clock_number", some (.ref 343)), (some "are_bounds", some (.ref 350)), (some "is_telling", some (.ref 357)), (some "are_tellings", some (.ref 362)), (some "need_telling", some (.ref 369)), (some "need_tellings", some (.ref 376)), (some "is_row", some (.ref 381)), (some "need_row", some (.ref 388)), (some "is_kept", some (.ref 395)), (some "keeps", some (.ref 400)), (some "first_broken", some (.ref 407)), (some "steps_of", some (.ref 414)), (some "is_step", some (.ref 421)), (some "walked", some (.ref 426))]
def gl3 : List (Option Str × Option V) := [(some "way_of", some (.ref 433)), (some "ring_holds", some (.ref 440)), (some "is_ring", some (.ref 447)), (some "shortest", some (.ref 454)), (some "ring_on", some (.ref 461)), (some "ring_in", some (.ref 468)), (some "together", some (.ref 475)), (some "agree", some (.ref 482)), (some "ring_of", some (.ref 489)), (some "need_together", some (.ref 496)), (some "far_from", some (.ref 503)), (some "stretch_by", some (.ref 510)), (some "stretch_of", some (.ref 518)), (some "great_of", some (.ref 525)), (some "highest_row", some (.ref 530)), (some "lowest_row", some (.ref 535)), (some "bound_to", some (.ref 542)), (some "is_free", some (.ref 547)), (some "need_other_clock", some (.ref 554)), (some "stretch_paper", some (.ref 561))]
def gl4 : List (Option Str × Option V) := [(some "end_holds", some (.ref 568)), (some "way_holds", some (.ref 575)), (some "paper_holds", some (.ref 582)), (some "MOST_GAIN", some (.ref 583)), (some "LEAST_GAIN", some (.ref 584)), (some "HOURS", some (.ref 585)), (some "MOST_SETS", some (.int 6)), (some "is_gain", some (.ref 592)), (some "is_moment", some (.ref 599)), (some "is_set", some (.ref 606)), (some "is_clock", some (.ref 611)), (some "need_clock", some (.ref 618)), (some "need_moment", some (.ref 625)), (some "own_error", some (.ref 632)), (some "jumps_till", some (.ref 639)), (some "drift_by", some (.ref 646)), (some "drift", some (.ref 653)), (some "shown_by", some (.ref 660)), (some "shown_at", some (.ref 668)), (some "stretches_of", some (.ref 675))]
def gl5 : List (Option Str × Option V) := [(some "moments_of", some (.ref 683)), (some "changes_of", some (.ref 690)), (some "turned_back", some (.ref 696)), (some "skipped", some (.ref 702)), (some "MOST_OFFERED", some (.int 10)), (some "MOST_OFFERS", some (.int 6)), (some "are_watched", some (.ref 707)), (some "need_watched", some (.ref 714)), (some "width_of", some (.ref 721)), (some "worst_by", some (.ref 728)), (some "worst_of", some (.ref 735)), (some "without", some (.ref 742)), (some "binding", some (.ref 749)), (some "all_stretches", some (.ref 754)), (some "needless", some (.ref 761)), (some "need_few", some (.ref 768)), (some "best_offer", some (.ref 773)), (some "need_asked", some (.ref 780)), (some "free_in", some (.ref 787)), (some "wide_in", some (.ref 794))]
def gl6 : List (Option Str × Option V) := [(some "reason_for", some (.ref 802)), (some "is_wide", some (.ref 809)), (some "reason_holds", some (.ref 816)), (some "MOST_STANDING", some (.int 10)), (some "are_gains", some (.ref 821)), (some "moved", some (.ref 828)), (some "Post", some (.ref 942)), (some "_law_cell_at", some (.ref 953)), (some "_law_next", some (.ref 960)), (some "_law_pen_of", some (.ref 967)), (some "_law_draw", some (.ref 974)), (some "_law_some", some (.ref 981)), (some "_law_dial", some (.ref 988)), (some "_law_told", some (.ref 995)), (some "_law_parts_right", some (.ref 1002)), (some "_law_dials_right", some (.ref 1009)), (some "_law_sheets_right", some (.ref 1016)), (some "_law_bids_right", some (.ref 1023)), (some "_law_posts_right", some (.ref 1030)), (some "law", some (.ref 1035))]
def gls : List (Option Str × Option V) := gl0 ++ gl1 ++ gl2 ++ gl3 ++ gl4 ++ gl5 ++ gl6
def tupOk (g : Addr → Option Obj) (p : Addr × List V) : Bool := match g p.1 with
  | some ⟨.type "tuple", _, .seq its _, _⟩ => decide (its.toList.map gv = p.2.map some)
  | _ => false
def tups : List (Addr × List V) := [(217, [.int (0), .int (1)]), (583, [.int (12), .int (1)]), (584, [.int (-12), .int (1)]), (585, [.int (24), .int (1)])]
def dfl1 (g : Addr → Option Obj) (p : Addr × List V) : Bool := match g p.1 with
  | some ⟨_, _, .seq its _, _⟩ => He.relAll p.2 its.toList
  | _ => false
def dfls : List (Addr × List V) := [(511, [.int 0]), (661, [.non]), (676, [.non]), (691, [.non]), (697, [.non]), (795, [.non]), (855, [.non, .non]), (880, [.non])]
def fas : List He.Fa := [.meth "Post" "__init__", .meth "Post" "taken_back", .meth "Post" "become", .meth "Post" "tells", .meth "Post" "sets", .meth "Post" "calls_false", .meth "Post" "stretch_at", .meth "Post" "stretch_then", .meth "Post" "standing", .meth "Post" "clock_now", .meth "Post" "error_by", .meth "Post" "__len__", .meth "Post" "__eq__", .cls "Post", .mkr "Post", .noat "Post" "clocks", .noat "Post" "told", .noat "Post" "next_number", .noat "Post" "past"]
def lo0 : List Str := ["_wall", "__name__", "ClockError", "NoPart", "NoNumber", "NoMoment", "NoClock", "NoHour", "NoTelling", "NoTellings", "NoRow", "Apart", "Twice", "Missing", "NoDeed", "TooMany", "NoText", "NOUGHT", "is_whole", "is_from_to"]
def lo1 : List Str := ["shared", "lowest", "is_part", "need_part", "plus", "minus", "product", "below", "turned", "part_of", "added", "less", "times", "is_less", "CLOCKS", "MOST_TELLINGS", "MOST_STEPS", "is_clock_number", "need_clock_number", "are_bounds"]
def lo2 : List Str := ["is_telling", "are_tellings", "need_telling", "need_tellings", "is_row", "need_row", "is_kept", "keeps", "first_broken", "steps_of", "is_step", "walked", "way_of", "ring_holds", "is_ring", "shortest", "ring_on", "ring_in", "together", "agree"]
def lo3 : List Str := ["ring_of", "need_together", "far_from", "stretch_by", "stretch_of", "great_of", "highest_row", "lowest_row", "bound_to", "is_free", "need_other_clock", "stretch_paper", "end_holds", "way_holds", "paper_holds", "MOST_GAIN", "LEAST_GAIN", "HOURS", "MOST_SETS", "is_gain"]
def lo4 : List Str := ["is_moment", "is_set", "is_clock", "need_clock", "need_moment", "own_error", "jumps_till", "drift_by", "drift", "shown_by", "shown_at", "stretches_of", "moments_of", "changes_of", "turned_back", "skipped", "MOST_OFFERED", "MOST_OFFERS", "are_watched", "need_watched"]
def lo5 : List Str := ["width_of", "worst_by", "worst_of", "without", "binding", "all_stretches", "needless", "need_few", "best_offer", "need_asked", "free_in", "wide_in", "reason_for", "is_wide", "reason_holds", "MOST_STANDING", "are_gains", "moved", "Post", "_law_cell_at"]
def lo6 : List Str := ["_law_next", "_law_pen_of", "_law_draw", "_law_some", "_law_dial", "_law_told", "_law_parts_right", "_law_dials_right", "_law_sheets_right", "_law_bids_right", "_law_posts_right"]
def loose : List Str := lo0 ++ lo1 ++ lo2 ++ lo3 ++ lo4 ++ lo5 ++ lo6
theorem m_TooMany_init : d_TooMany_init ∈ fds := List.mem_of_getElem? (i := 0) rfl
theorem m_NoText_init : d_NoText_init ∈ fds := List.mem_of_getElem? (i := 1) rfl
theorem m_is_whole : d_is_whole ∈ fds := List.mem_of_getElem? (i := 2) rfl
theorem m_is_from_to : d_is_from_to ∈ fds := List.mem_of_getElem? (i := 3) rfl
theorem m_shared : d_shared ∈ fds := List.mem_of_getElem? (i := 4) rfl
theorem m_lowest : d_lowest ∈ fds := List.mem_of_getElem? (i := 5) rfl
theorem m_is_part : d_is_part ∈ fds := List.mem_of_getElem? (i := 6) rfl
theorem m_need_part : d_need_part ∈ fds := List.mem_of_getElem? (i := 7) rfl
theorem m_plus : d_plus ∈ fds := List.mem_of_getElem? (i := 8) rfl
theorem m_minus : d_minus ∈ fds := List.mem_of_getElem? (i := 9) rfl
theorem m_product : d_product ∈ fds := List.mem_of_getElem? (i := 10) rfl
theorem m_below : d_below ∈ fds := List.mem_of_getElem? (i := 11) rfl
theorem m_turned : d_turned ∈ fds := List.mem_of_getElem? (i := 12) rfl
theorem m_part_of : d_part_of ∈ fds := List.mem_of_getElem? (i := 13) rfl
theorem m_added : d_added ∈ fds := List.mem_of_getElem? (i := 14) rfl
theorem m_less : d_less ∈ fds := List.mem_of_getElem? (i := 15) rfl
theorem m_times : d_times ∈ fds := List.mem_of_getElem? (i := 16) rfl
theorem m_is_less : d_is_less ∈ fds := List.mem_of_getElem? (i := 17) rfl
theorem m_is_clock_number : d_is_clock_number ∈ fds := List.mem_of_getElem? (i := 18) rfl
theorem m_need_clock_number : d_need_clock_number ∈ fds := List.mem_of_getElem? (i := 19) rfl
theorem m_are_bounds : d_are_bounds ∈ fds := List.mem_of_getElem? (i := 20) rfl
theorem m_is_telling : d_is_telling ∈ fds := List.mem_of_getElem? (i := 21) rfl
theorem m_are_tellings : d_are_tellings ∈ fds := List.mem_of_getElem? (i := 22) rfl
theorem m_need_telling : d_need_telling ∈ fds := List.mem_of_getElem? (i := 23) rfl
theorem m_need_tellings : d_need_tellings ∈ fds := List.mem_of_getElem? (i := 24) rfl
theorem m_is_row : d_is_row ∈ fds := List.mem_of_getElem? (i := 25) rfl
theorem m_need_row : d_need_row ∈ fds := List.mem_of_getElem? (i := 26) rfl
theorem m_is_kept : d_is_kept ∈ fds := List.mem_of_getElem? (i := 27) rfl
theorem m_keeps : d_keeps ∈ fds := List.mem_of_getElem? (i := 28) rfl
theorem m_first_broken : d_first_broken ∈ fds := List.mem_of_getElem? (i := 29) rfl
theorem m_steps_of : d_steps_of ∈ fds := List.mem_of_getElem? (i := 30) rfl
theorem m_is_step : d_is_step ∈ fds := List.mem_of_getElem? (i := 31) rfl
theorem m_walked : d_walked ∈ fds := List.mem_of_getElem? (i := 32) rfl
theorem m_way_of : d_way_of ∈ fds := List.mem_of_getElem? (i := 33) rfl
theorem m_ring_holds : d_ring_holds ∈ fds := List.mem_of_getElem? (i := 34) rfl
theorem m_is_ring : d_is_ring ∈ fds := List.mem_of_getElem? (i := 35) rfl
theorem m_shortest : d_shortest ∈ fds := List.mem_of_getElem? (i := 36) rfl
theorem m_ring_in : d_ring_in ∈ fds := List.mem_of_getElem? (i := 37) rfl
theorem m_together : d_together ∈ fds := List.mem_of_getElem? (i := 38) rfl
theorem m_agree : d_agree ∈ fds := List.mem_of_getElem? (i := 39) rfl
theorem m_ring_of : d_ring_of ∈ fds := List.mem_of_getElem? (i := 40) rfl
theorem m_need_together : d_need_together ∈ fds := List.mem_of_getElem? (i := 41) rfl
theorem m_far_from : d_far_from ∈ fds := List.mem_of_getElem? (i := 42) rfl
theorem m_stretch_by : d_stretch_by ∈ fds := List.mem_of_getElem? (i := 43) rfl
theorem m_stretch_of : d_stretch_of ∈ fds := List.mem_of_getElem? (i := 44) rfl
theorem m_great_of : d_great_of ∈ fds := List.mem_of_getElem? (i := 45) rfl
theorem m_highest_row : d_highest_row ∈ fds := List.mem_of_getElem? (i := 46) rfl
theorem m_lowest_row : d_lowest_row ∈ fds := List.mem_of_getElem? (i := 47) rfl
theorem m_bound_to : d_bound_to ∈ fds := List.mem_of_getElem? (i := 48) rfl
theorem m_is_free : d_is_free ∈ fds := List.mem_of_getElem? (i := 49) rfl
theorem m_need_other_clock : d_need_other_clock ∈ fds := List.mem_of_getElem? (i := 50) rfl
theorem m_stretch_paper : d_stretch_paper ∈ fds := List.mem_of_getElem? (i := 51) rfl
theorem m_end_holds : d_end_holds ∈ fds := List.mem_of_getElem? (i := 52) rfl
theorem m_way_holds : d_way_holds ∈ fds := List.mem_of_getElem? (i := 53) rfl
theorem m_paper_holds : d_paper_holds ∈ fds := List.mem_of_getElem? (i := 54) rfl
theorem m_is_gain : d_is_gain ∈ fds := List.mem_of_getElem? (i := 55) rfl
theorem m_is_moment : d_is_moment ∈ fds := List.mem_of_getElem? (i := 56) rfl
theorem m_is_set : d_is_set ∈ fds := List.mem_of_getElem? (i := 57) rfl
theorem m_is_clock : d_is_clock ∈ fds := List.mem_of_getElem? (i := 58) rfl
theorem m_need_clock : d_need_clock ∈ fds := List.mem_of_getElem? (i := 59) rfl
theorem m_need_moment : d_need_moment ∈ fds := List.mem_of_getElem? (i := 60) rfl
theorem m_own_error : d_own_error ∈ fds := List.mem_of_getElem? (i := 61) rfl
theorem m_jumps_till : d_jumps_till ∈ fds := List.mem_of_getElem? (i := 62) rfl
theorem m_drift_by : d_drift_by ∈ fds := List.mem_of_getElem? (i := 63) rfl
theorem m_drift : d_drift ∈ fds := List.mem_of_getElem? (i := 64) rfl
theorem m_shown_by : d_shown_by ∈ fds := List.mem_of_getElem? (i := 65) rfl
theorem m_shown_at : d_shown_at ∈ fds := List.mem_of_getElem? (i := 66) rfl
theorem m_stretches_of : d_stretches_of ∈ fds := List.mem_of_getElem? (i := 67) rfl
theorem m_moments_of : d_moments_of ∈ fds := List.mem_of_getElem? (i := 68) rfl
theorem m_changes_of : d_changes_of ∈ fds := List.mem_of_getElem? (i := 69) rfl
theorem m_turned_back : d_turned_back ∈ fds := List.mem_of_getElem? (i := 70) rfl
theorem m_skipped : d_skipped ∈ fds := List.mem_of_getElem? (i := 71) rfl
theorem m_are_watched : d_are_watched ∈ fds := List.mem_of_getElem? (i := 72) rfl
theorem m_need_watched : d_need_watched ∈ fds := List.mem_of_getElem? (i := 73) rfl
theorem m_width_of : d_width_of ∈ fds := List.mem_of_getElem? (i := 74) rfl
theorem m_worst_by : d_worst_by ∈ fds := List.mem_of_getElem? (i := 75) rfl
theorem m_worst_of : d_worst_of ∈ fds := List.mem_of_getElem? (i := 76) rfl
theorem m_without : d_without ∈ fds := List.mem_of_getElem? (i := 77) rfl
theorem m_binding : d_binding ∈ fds := List.mem_of_getElem? (i := 78) rfl
theorem m_all_stretches : d_all_stretches ∈ fds := List.mem_of_getElem? (i := 79) rfl
theorem m_needless : d_needless ∈ fds := List.mem_of_getElem? (i := 80) rfl
theorem m_need_few : d_need_few ∈ fds := List.mem_of_getElem? (i := 81) rfl
theorem m_best_offer : d_best_offer ∈ fds := List.mem_of_getElem? (i := 82) rfl
theorem m_need_asked : d_need_asked ∈ fds := List.mem_of_getElem? (i := 83) rfl
theorem m_free_in : d_free_in ∈ fds := List.mem_of_getElem? (i := 84) rfl
theorem m_wide_in : d_wide_in ∈ fds := List.mem_of_getElem? (i := 85) rfl
theorem m_reason_for : d_reason_for ∈ fds := List.mem_of_getElem? (i := 86) rfl
theorem m_is_wide : d_is_wide ∈ fds := List.mem_of_getElem? (i := 87) rfl
theorem m_reason_holds : d_reason_holds ∈ fds := List.mem_of_getElem? (i := 88) rfl
theorem m_are_gains : d_are_gains ∈ fds := List.mem_of_getElem? (i := 89) rfl
theorem m_moved : d_moved ∈ fds := List.mem_of_getElem? (i := 90) rfl
theorem m_Post_init : d_Post_init ∈ fds := List.mem_of_getElem? (i := 91) rfl
theorem m_Post_taken_back : d_Post_taken_back ∈ fds := List.mem_of_getElem? (i := 92) rfl
theorem m_Post_become : d_Post_become ∈ fds := List.mem_of_getElem? (i := 93) rfl
theorem m_Post_tells : d_Post_tells ∈ fds := List.mem_of_getElem? (i := 94) rfl
theorem m_Post_sets : d_Post_sets ∈ fds := List.mem_of_getElem? (i := 95) rfl
theorem m_Post_calls_false : d_Post_calls_false ∈ fds := List.mem_of_getElem? (i := 96) rfl
theorem m_Post_stretch_at : d_Post_stretch_at ∈ fds := List.mem_of_getElem? (i := 97) rfl
theorem m_Post_stretch_then : d_Post_stretch_then ∈ fds := List.mem_of_getElem? (i := 98) rfl
theorem m_Post_standing : d_Post_standing ∈ fds := List.mem_of_getElem? (i := 99) rfl
theorem m_Post_clock_now : d_Post_clock_now ∈ fds := List.mem_of_getElem? (i := 100) rfl
theorem m_Post_error_by : d_Post_error_by ∈ fds := List.mem_of_getElem? (i := 101) rfl
theorem m_Post_len : d_Post_len ∈ fds := List.mem_of_getElem? (i := 102) rfl
theorem m_Post_eq : d_Post_eq ∈ fds := List.mem_of_getElem? (i := 103) rfl
theorem m_law_cell_at : d_law_cell_at ∈ fds := List.mem_of_getElem? (i := 104) rfl
theorem m_law_next : d_law_next ∈ fds := List.mem_of_getElem? (i := 105) rfl
theorem m_law_pen_of : d_law_pen_of ∈ fds := List.mem_of_getElem? (i := 106) rfl
theorem m_law_draw : d_law_draw ∈ fds := List.mem_of_getElem? (i := 107) rfl
theorem m_law_some : d_law_some ∈ fds := List.mem_of_getElem? (i := 108) rfl
theorem m_law_dial : d_law_dial ∈ fds := List.mem_of_getElem? (i := 109) rfl
theorem m_law_told : d_law_told ∈ fds := List.mem_of_getElem? (i := 110) rfl
theorem m_law_parts_right : d_law_parts_right ∈ fds := List.mem_of_getElem? (i := 111) rfl
theorem m_law_dials_right : d_law_dials_right ∈ fds := List.mem_of_getElem? (i := 112) rfl
theorem m_law_sheets_right : d_law_sheets_right ∈ fds := List.mem_of_getElem? (i := 113) rfl
theorem m_law_bids_right : d_law_bids_right ∈ fds := List.mem_of_getElem? (i := 114) rfl
theorem m_law_posts_right : d_law_posts_right ∈ fds := List.mem_of_getElem? (i := 115) rfl
theorem m_law : d_law ∈ fds := List.mem_of_getElem? (i := 116) rfl
theorem g_ClockError : ((some "ClockError", some (.ref 31)) : Option Str × Option V) ∈ gls := List.mem_of_getElem? (i := 10) rfl
theorem g_TooMany : ((some "TooMany", some (.ref 195)) : Option Str × Option V) ∈ gls := List.mem_of_getElem? (i := 23) rfl
theorem g_NoText : ((some "NoText", some (.ref 214)) : Option Str × Option V) ∈ gls := List.mem_of_getElem? (i := 24) rfl
theorem g_NOUGHT : ((some "NOUGHT", some (.ref 217)) : Option Str × Option V) ∈ gls := List.mem_of_getElem? (i := 25) rfl
theorem g_is_whole : ((some "is_whole", some (.ref 224)) : Option Str × Option V) ∈ gls := List.mem_of_getElem? (i := 26) rfl
theorem g_is_from_to : ((some "is_from_to", some (.ref 231)) : Option Str × Option V) ∈ gls := List.mem_of_getElem? (i := 27) rfl
theorem g_shared : ((some "shared", some (.ref 238)) : Option Str × Option V) ∈ gls := List.mem_of_getElem? (i := 28) rfl
theorem g_lowest : ((some "lowest", some (.ref 245)) : Option Str × Option V) ∈ gls := List.mem_of_getElem? (i := 29) rfl
theorem g_is_part : ((some "is_part", some (.ref 252)) : Option Str × Option V) ∈ gls := List.mem_of_getElem? (i := 30) rfl
theorem g_need_part : ((some "need_part", some (.ref 259)) : Option Str × Option V) ∈ gls := List.mem_of_getElem? (i := 31) rfl
theorem g_plus : ((some "plus", some (.ref 266)) : Option Str × Option V) ∈ gls := List.mem_of_getElem? (i := 32) rfl
theorem g_minus : ((some "minus", some (.ref 273)) : Option Str × Option V) ∈ gls := List.mem_of_getElem? (i := 33) rfl
theorem g_product : ((some "product", some (.ref 280)) : Option Str × Option V) ∈ gls := List.mem_of_getElem? (i := 34) rfl
theorem g_below : ((some "below", some (.ref 287)) : Option Str × Option V) ∈ gls := List.mem_of_getElem? (i := 35) rfl
theorem g_turned : ((some "turned", some (.ref 294)) : Option Str × Option V) ∈ gls := List.mem_of_getElem? (i := 36) rfl
theorem g_part_of : ((some "part_of", some (.ref 301)) : Option Str × Option V) ∈ gls := List.mem_of_getElem? (i := 37) rfl
theorem g_added : ((some "added", some (.ref 308)) : Option Str × Option V) ∈ gls := List.mem_of_getElem? (i := 38) rfl
theorem g_less : ((some "less", some (.ref 315)) : Option Str × Option V) ∈ gls := List.mem_of_getElem? (i := 39) rfl
theorem g_times : ((some "times", some (.ref 322)) : Option Str × Option V) ∈ gls := List.mem_of_getElem? (i := 40) rfl
theorem g_is_less : ((some "is_less", some (.ref 329)) : Option Str × Option V) ∈ gls := List.mem_of_getElem? (i := 41) rfl
theorem g_CLOCKS : ((some "CLOCKS", some (.int 6)) : Option Str × Option V) ∈ gls := List.mem_of_getElem? (i := 42) rfl
theorem g_MOST_TELLINGS : ((some "MOST_TELLINGS", some (.int 16)) : Option Str × Option V) ∈ gls := List.mem_of_getElem? (i := 43) rfl
theorem g_MOST_STEPS : ((some "MOST_STEPS", some (.int 60)) : Option Str × Option V) ∈ gls := List.mem_of_getElem? (i := 44) rfl
theorem g_is_clock_number : ((some "is_clock_number", some (.ref 336)) : Option Str × Option V) ∈ gls := List.mem_of_getElem? (i := 45) rfl
theorem g_need_clock_number : ((some "need_clock_number", some (.ref 343)) : Option Str × Option V) ∈ gls := List.mem_of_getElem? (i := 46) rfl
theorem g_are_bounds : ((some "are_bounds", some (.ref 350)) : Option Str × Option V) ∈ gls := List.mem_of_getElem? (i := 47) rfl
theorem g_is_telling : ((some "is_telling", some (.ref 357)) : Option Str × Option V) ∈ gls := List.mem_of_getElem? (i := 48) rfl
theorem g_are_tellings : ((some "are_tellings", some (.ref 362)) : Option Str × Option V) ∈ gls := List.mem_of_getElem? (i := 49) rfl
theorem g_need_telling : ((some "need_telling", some (.ref 369)) : Option Str × Option V) ∈ gls := List.mem_of_getElem? (i := 50) rfl
theorem g_need_tellings : ((some "need_tellings", some (.ref 376)) : Option Str × Option V) ∈ gls := List.mem_of_getElem? (i := 51) rfl
theorem g_is_row : ((some "is_row", some (.ref 381)) : Option Str × Option V) ∈ gls := List.mem_of_getElem? (i := 52) rfl
theorem g_need_row : ((some "need_row", some (.ref 388)) : Option Str × Option V) ∈ gls := List.mem_of_getElem? (i := 53) rfl
theorem g_is_kept : ((some "is_kept", some (.ref 395)) : Option Str × Option V) ∈ gls := List.mem_of_getElem? (i := 54) rfl
theorem g_keeps : ((some "keeps", some (.ref 400)) : Option Str × Option V) ∈ gls := List.mem_of_getElem? (i := 55) rfl
theorem g_first_broken : ((some "first_broken", some (.ref 407)) : Option Str × Option V) ∈ gls := List.mem_of_getElem? (i := 56) rfl
theorem g_steps_of : ((some "steps_of", some (.ref 414)) : Option Str × Option V) ∈ gls := List.mem_of_getElem? (i := 57) rfl
theorem g_is_step : ((some "is_step", some (.ref 421)) : Option Str × Option V) ∈ gls := List.mem_of_getElem? (i := 58) rfl
theorem g_walked : ((some "walked", some (.ref 426)) : Option Str × Option V) ∈ gls := List.mem_of_getElem? (i := 59) rfl
theorem g_way_of : ((some "way_of", some (.ref 433)) : Option Str × Option V) ∈ gls := List.mem_of_getElem? (i := 60) rfl
theorem g_ring_holds : ((some "ring_holds", some (.ref 440)) : Option Str × Option V) ∈ gls := List.mem_of_getElem? (i := 61) rfl
theorem g_is_ring : ((some "is_ring", some (.ref 447)) : Option Str × Option V) ∈ gls := List.mem_of_getElem? (i := 62) rfl
theorem g_shortest : ((some "shortest", some (.ref 454)) : Option Str × Option V) ∈ gls := List.mem_of_getElem? (i := 63) rfl
theorem g_ring_in : ((some "ring_in", some (.ref 468)) : Option Str × Option V) ∈ gls := List.mem_of_getElem? (i := 65) rfl
theorem g_together : ((some "together", some (.ref 475)) : Option Str × Option V) ∈ gls := List.mem_of_getElem? (i := 66) rfl
theorem g_agree : ((some "agree", some (.ref 482)) : Option Str × Option V) ∈ gls := List.mem_of_getElem? (i := 67) rfl
theorem g_ring_of : ((some "ring_of", some (.ref 489)) : Option Str × Option V) ∈ gls := List.mem_of_getElem? (i := 68) rfl
theorem g_need_together : ((some "need_together", some (.ref 496)) : Option Str × Option V) ∈ gls := List.mem_of_getElem? (i := 69) rfl
theorem g_far_from : ((some "far_from", some (.ref 503)) : Option Str × Option V) ∈ gls := List.mem_of_getElem? (i := 70) rfl
theorem g_stretch_by : ((some "stretch_by", some (.ref 510)) : Option Str × Option V) ∈ gls := List.mem_of_getElem? (i := 71) rfl
theorem g_stretch_of : ((some "stretch_of", some (.ref 518)) : Option Str × Option V) ∈ gls := List.mem_of_getElem? (i := 72) rfl
theorem g_great_of : ((some "great_of", some (.ref 525)) : Option Str × Option V) ∈ gls := List.mem_of_getElem? (i := 73) rfl
theorem g_highest_row : ((some "highest_row", some (.ref 530)) : Option Str × Option V) ∈ gls := List.mem_of_getElem? (i := 74) rfl
theorem g_lowest_row : ((some "lowest_row", some (.ref 535)) : Option Str × Option V) ∈ gls := List.mem_of_getElem? (i := 75) rfl
theorem g_bound_to : ((some "bound_to", some (.ref 542)) : Option Str × Option V) ∈ gls := List.mem_of_getElem? (i := 76) rfl
theorem g_is_free : ((some "is_free", some (.ref 547)) : Option Str × Option V) ∈ gls := List.mem_of_getElem? (i := 77) rfl
theorem g_need_other_clock : ((some "need_other_clock", some (.ref 554)) : Option Str × Option V) ∈ gls := List.mem_of_getElem? (i := 78) rfl
theorem g_stretch_paper : ((some "stretch_paper", some (.ref 561)) : Option Str × Option V) ∈ gls := List.mem_of_getElem? (i := 79) rfl
theorem g_end_holds : ((some "end_holds", some (.ref 568)) : Option Str × Option V) ∈ gls := List.mem_of_getElem? (i := 80) rfl
theorem g_way_holds : ((some "way_holds", some (.ref 575)) : Option Str × Option V) ∈ gls := List.mem_of_getElem? (i := 81) rfl
theorem g_paper_holds : ((some "paper_holds", some (.ref 582)) : Option Str × Option V) ∈ gls := List.mem_of_getElem? (i := 82) rfl
theorem g_MOST_GAIN : ((some "MOST_GAIN", some (.ref 583)) : Option Str × Option V) ∈ gls := List.mem_of_getElem? (i := 83) rfl
theorem g_LEAST_GAIN : ((some "LEAST_GAIN", some (.ref 584)) : Option Str × Option V) ∈ gls := List.mem_of_getElem? (i := 84) rfl
theorem g_HOURS : ((some "HOURS", some (.ref 585)) : Option Str × Option V) ∈ gls := List.mem_of_getElem? (i := 85) rfl
theorem g_MOST_SETS : ((some "MOST_SETS", some (.int 6)) : Option Str × Option V) ∈ gls := List.mem_of_getElem? (i := 86) rfl
theorem g_is_gain : ((some "is_gain", some (.ref 592)) : Option Str × Option V) ∈ gls := List.mem_of_getElem? (i := 87) rfl
theorem g_is_moment : ((some "is_moment", some (.ref 599)) : Option Str × Option V) ∈ gls := List.mem_of_getElem? (i := 88) rfl
theorem g_is_set : ((some "is_set", some (.ref 606)) : Option Str × Option V) ∈ gls := List.mem_of_getElem? (i := 89) rfl
theorem g_is_clock : ((some "is_clock", some (.ref 611)) : Option Str × Option V) ∈ gls := List.mem_of_getElem? (i := 90) rfl
theorem g_need_clock : ((some "need_clock", some (.ref 618)) : Option Str × Option V) ∈ gls := List.mem_of_getElem? (i := 91) rfl
theorem g_need_moment : ((some "need_moment", some (.ref 625)) : Option Str × Option V) ∈ gls := List.mem_of_getElem? (i := 92) rfl
theorem g_own_error : ((some "own_error", some (.ref 632)) : Option Str × Option V) ∈ gls := List.mem_of_getElem? (i := 93) rfl
theorem g_jumps_till : ((some "jumps_till", some (.ref 639)) : Option Str × Option V) ∈ gls := List.mem_of_getElem? (i := 94) rfl
theorem g_drift_by : ((some "drift_by", some (.ref 646)) : Option Str × Option V) ∈ gls := List.mem_of_getElem? (i := 95) rfl
theorem g_drift : ((some "drift", some (.ref 653)) : Option Str × Option V) ∈ gls := List.mem_of_getElem? (i := 96) rfl
theorem g_shown_by : ((some "shown_by", some (.ref 660)) : Option Str × Option V) ∈ gls := List.mem_of_getElem? (i := 97) rfl
theorem g_shown_at : ((some "shown_at", some (.ref 668)) : Option Str × Option V) ∈ gls := List.mem_of_getElem? (i := 98) rfl
theorem g_stretches_of : ((some "stretches_of", some (.ref 675)) : Option Str × Option V) ∈ gls := List.mem_of_getElem? (i := 99) rfl
theorem g_moments_of : ((some "moments_of", some (.ref 683)) : Option Str × Option V) ∈ gls := List.mem_of_getElem? (i := 100) rfl
theorem g_changes_of : ((some "changes_of", some (.ref 690)) : Option Str × Option V) ∈ gls := List.mem_of_getElem? (i := 101) rfl
theorem g_turned_back : ((some "turned_back", some (.ref 696)) : Option Str × Option V) ∈ gls := List.mem_of_getElem? (i := 102) rfl
theorem g_skipped : ((some "skipped", some (.ref 702)) : Option Str × Option V) ∈ gls := List.mem_of_getElem? (i := 103) rfl
theorem g_MOST_OFFERED : ((some "MOST_OFFERED", some (.int 10)) : Option Str × Option V) ∈ gls := List.mem_of_getElem? (i := 104) rfl
theorem g_MOST_OFFERS : ((some "MOST_OFFERS", some (.int 6)) : Option Str × Option V) ∈ gls := List.mem_of_getElem? (i := 105) rfl
theorem g_are_watched : ((some "are_watched", some (.ref 707)) : Option Str × Option V) ∈ gls := List.mem_of_getElem? (i := 106) rfl
theorem g_need_watched : ((some "need_watched", some (.ref 714)) : Option Str × Option V) ∈ gls := List.mem_of_getElem? (i := 107) rfl
theorem g_width_of : ((some "width_of", some (.ref 721)) : Option Str × Option V) ∈ gls := List.mem_of_getElem? (i := 108) rfl
theorem g_worst_by : ((some "worst_by", some (.ref 728)) : Option Str × Option V) ∈ gls := List.mem_of_getElem? (i := 109) rfl
theorem g_worst_of : ((some "worst_of", some (.ref 735)) : Option Str × Option V) ∈ gls := List.mem_of_getElem? (i := 110) rfl
theorem g_without : ((some "without", some (.ref 742)) : Option Str × Option V) ∈ gls := List.mem_of_getElem? (i := 111) rfl
theorem g_binding : ((some "binding", some (.ref 749)) : Option Str × Option V) ∈ gls := List.mem_of_getElem? (i := 112) rfl
theorem g_all_stretches : ((some "all_stretches", some (.ref 754)) : Option Str × Option V) ∈ gls := List.mem_of_getElem? (i := 113) rfl
theorem g_needless : ((some "needless", some (.ref 761)) : Option Str × Option V) ∈ gls := List.mem_of_getElem? (i := 114) rfl
theorem g_need_few : ((some "need_few", some (.ref 768)) : Option Str × Option V) ∈ gls := List.mem_of_getElem? (i := 115) rfl
theorem g_best_offer : ((some "best_offer", some (.ref 773)) : Option Str × Option V) ∈ gls := List.mem_of_getElem? (i := 116) rfl
theorem g_need_asked : ((some "need_asked", some (.ref 780)) : Option Str × Option V) ∈ gls := List.mem_of_getElem? (i := 117) rfl
theorem g_free_in : ((some "free_in", some (.ref 787)) : Option Str × Option V) ∈ gls := List.mem_of_getElem? (i := 118) rfl
theorem g_wide_in : ((some "wide_in", some (.ref 794)) : Option Str × Option V) ∈ gls := List.mem_of_getElem? (i := 119) rfl
theorem g_reason_for : ((some "reason_for", some (.ref 802)) : Option Str × Option V) ∈ gls := List.mem_of_getElem? (i := 120) rfl
theorem g_is_wide : ((some "is_wide", some (.ref 809)) : Option Str × Option V) ∈ gls := List.mem_of_getElem? (i := 121) rfl
theorem g_reason_holds : ((some "reason_holds", some (.ref 816)) : Option Str × Option V) ∈ gls := List.mem_of_getElem? (i := 122) rfl
theorem g_MOST_STANDING : ((some "MOST_STANDING", some (.int 10)) : Option Str × Option V) ∈ gls := List.mem_of_getElem? (i := 123) rfl
theorem g_are_gains : ((some "are_gains", some (.ref 821)) : Option Str × Option V) ∈ gls := List.mem_of_getElem? (i := 124) rfl
theorem g_moved : ((some "moved", some (.ref 828)) : Option Str × Option V) ∈ gls := List.mem_of_getElem? (i := 125) rfl
theorem g_Post : ((some "Post", some (.ref 942)) : Option Str × Option V) ∈ gls := List.mem_of_getElem? (i := 126) rfl
theorem g_law_cell_at : ((some "_law_cell_at", some (.ref 953)) : Option Str × Option V) ∈ gls := List.mem_of_getElem? (i := 127) rfl
theorem g_law_next : ((some "_law_next", some (.ref 960)) : Option Str × Option V) ∈ gls := List.mem_of_getElem? (i := 128) rfl
theorem g_law_pen_of : ((some "_law_pen_of", some (.ref 967)) : Option Str × Option V) ∈ gls := List.mem_of_getElem? (i := 129) rfl
theorem g_law_draw : ((some "_law_draw", some (.ref 974)) : Option Str × Option V) ∈ gls := List.mem_of_getElem? (i := 130) rfl
theorem g_law_some : ((some "_law_some", some (.ref 981)) : Option Str × Option V) ∈ gls := List.mem_of_getElem? (i := 131) rfl
theorem g_law_dial : ((some "_law_dial", some (.ref 988)) : Option Str × Option V) ∈ gls := List.mem_of_getElem? (i := 132) rfl
theorem g_law_told : ((some "_law_told", some (.ref 995)) : Option Str × Option V) ∈ gls := List.mem_of_getElem? (i := 133) rfl
theorem g_law_parts_right : ((some "_law_parts_right", some (.ref 1002)) : Option Str × Option V) ∈ gls := List.mem_of_getElem? (i := 134) rfl
theorem g_law_dials_right : ((some "_law_dials_right", some (.ref 1009)) : Option Str × Option V) ∈ gls := List.mem_of_getElem? (i := 135) rfl
theorem g_law_sheets_right : ((some "_law_sheets_right", some (.ref 1016)) : Option Str × Option V) ∈ gls := List.mem_of_getElem? (i := 136) rfl
theorem g_law_bids_right : ((some "_law_bids_right", some (.ref 1023)) : Option Str × Option V) ∈ gls := List.mem_of_getElem? (i := 137) rfl
theorem g_law_posts_right : ((some "_law_posts_right", some (.ref 1030)) : Option Str × Option V) ∈ gls := List.mem_of_getElem? (i := 138) rfl
theorem g_law : ((some "law", some (.ref 1035)) : Option Str × Option V) ∈ gls := List.mem_of_getElem? (i := 139) rfl
end Gk
end

section
set_option linter.all false
set_option maxRecDepth 100000
namespace Gk
open PySem PySem.Spec PyProof.Rows L2
/-! ## what the head's run is asked beside: of Post and the exceptions -/
def eqR (a : Option (Option Value)) (b : Option Value) : Bool := He.eqO a (some b)
/-- an own exception class that is made by ValueError.__new__ -/
def oexB (K : PySem.W.Frag) (C : Addr) : Bool := (match K.lookup C with
  | some ⟨.type "type", _, .cls cd, sl⟩ => (match cd.mro, sl.toList with
    | .ref C' :: bm, [_, _, _, _, some (.builtin n), _] => C' == C && (n == "ValueError.__new__" && (!cd.hasDel && (cd.hasDict && PySem.HandSPX.refsVE bm)))
    | _, _ => false)
  | _ => false) && (eqR (PySem.W.findIn K (.ref C) "__setattr__") (some (.builtin "object.__setattr__")) && (decide (PySem.W.subIn K (.ref C) (.type "BaseException") = some true) && (decide (PySem.W.typeIn K (.ref C) = some (.type "type")) && PySem.W.keepIn K (.ref C))))
theorem oexB_ok {K : PySem.W.Frag} {C : Addr} (h : oexB K C = true) : OexC K C := by
  obtain ⟨h1, h⟩ := Bool.and_eq_true_iff.mp h
  obtain ⟨h2, h⟩ := Bool.and_eq_true_iff.mp h
  obtain ⟨h3, h⟩ := Bool.and_eq_true_iff.mp h
  obtain ⟨h4, h5⟩ := Bool.and_eq_true_iff.mp h
  refine ⟨?_, He.eqO_ok h2, of_decide_eq_true h3, of_decide_eq_true h4, h5⟩
  split at h1
  · rename_i dd cd sl ho
    split at h1
    · rename_i C' bm k0 k1 k2 k3 n k5 hm hs
      simp only [Bool.and_eq_true, beq_iff_eq, Bool.not_eq_true'] at h1
      obtain ⟨rfl, rfl, hdel, hd, hr⟩ := h1
      obtain ⟨nm, bs, mro, ns, qn, hdct, sn, sub, ab, col, del⟩ := cd
      dsimp only at hm hdel hd
      subst hm hdel hd
      have hsl : sl = #[k0, k1, k2, k3, some (.builtin "ValueError.__new__"), k5] := by
        obtain ⟨l⟩ := sl
        simp only at hs
        rw [hs]
      subst hsl
      exact ⟨nm, qn, ns, bs, bm, sn, sub, ab, col, dd, k0, k1, k2, k3, k5, ho, hr⟩
    · cases h1
  · cases h1
def ckB (K : PySem.W.Frag) : Bool := match PySem.W.findCls K (.ref 31) (.type "type") "__init__" with
  | some (.val (.builtin n)) => n == "ValueError.__init__"
  | _ => false
theorem ckB_ok {K : PySem.W.Frag} (h : ckB K = true) : PySem.W.findCls K (.ref 31) (.type "type") "__init__" = some (.val (.builtin "ValueError.__init__")) := by
  unfold ckB at h
  split at h
  · rename_i n e
    rw [e, beq_iff_eq.mp h]
  · cases h
def pms : List (Str × Addr) := [("taken_back", 847), ("become", 854), ("tells", 862), ("sets", 867), ("calls_false", 872), ("stretch_at", 887), ("stretch_then", 894), ("standing", 899), ("clock_now", 906), ("error_by", 920), ("__len__", 927), ("__eq__", 934)]
def peB (K : PySem.W.Frag) : Bool :=
  (PySem.W.plainGet K 942 Str.empty && (PySem.W.hasDictIn K 942 && (PySem.W.plainOver K 942 && eqR (PySem.W.findIn K (.ref 942) "__setattr__") (some (.builtin "object.__setattr__")))))
  && ((["clocks", "told", "next_number", "past"] : List Str).all (fun f => eqR (PySem.W.findIn K (.ref 942) f) none)
  && (pms.all (fun p => eqR (PySem.W.findIn K (.ref 942) p.1) (some (.ref p.2)) && (PySem.W.isFn K (.ref p.2) && PySem.W.keepIn K (.ref p.2)))
  && ((PySem.W.makesIn K 942 && (eqR (PySem.W.findIn K (.ref 942) "__init__") (some (.ref 840)) && (PySem.W.isFn K (.ref 840) && PySem.W.keepIn K (.ref 942))))
  && ((eqR (PySem.W.findIn K (.ref 942) "__ne__") (some (.builtin "object.__ne__")) && (decide (PySem.W.subIn K (.ref 942) (.type "object") = some true) && decide (PySem.W.kitOne K (.ref 942) (.ref 942) = some true)))
  && ((eqR (PySem.W.findIn K (.ref 942) "__class__") (some (.builtin "object.__class__")) && (eqR (PySem.W.specialIn K (.builtin "object.__class__") "__get__") (some (.builtin "getset_descriptor.__get__")) && (decide (PySem.W.takesIn K (.builtin "object.__class__") = some true) && decide (PySem.W.mroIn K 942 (.type "object") = some true))))
  && ((PySem.W.readsIn K 31 (.type "type") && (eqR (PySem.W.specialIn K (.ref 31) "__getattribute__") (some (.builtin "type.__getattribute__")) && ckB K))
  && ((oexB K 195 && oexB K 214)
  && ((eqR (PySem.W.findIn K (.ref 195) "__init__") (some (.ref 192)) && (eqR (PySem.W.findIn K (.ref 214) "__init__") (some (.ref 211)) && (decide (PySem.W.typeIn K (.ref 192) = some (.type "function")) && decide (PySem.W.typeIn K (.ref 211) = some (.type "function")))))
  && ((eqR (PySem.W.findIn K (.ref 195) "many") none && (eqR (PySem.W.findIn K (.ref 195) "most") none && eqR (PySem.W.findIn K (.ref 214) "at") none))
  && (xfB K 195 && xfB K 214))))))))))
end Gk
end

section
set_option linter.all false
set_option maxRecDepth 100000
set_option maxHeartbeats 0
namespace Gk
open PySem PySem.Spec PyProof.Rows L2
abbrev Al : Type := Option (List (Option Str × Option V)) × List Seen × Bool
def chk (g : Addr → Option Obj) : Al := (gdict g, fds.map (Fd.seen g), fds.all (Fd.code g) && tups.all (tupOk g) && dfls.all (dfl1 g) && peB (He.frG g as))
def due : Al := (some gls, fds.map Fd.want, true)
def hk : PySem.W.Hook where
  α := Al
  obs := fun s => chk s.heap.get?
  val := fun _ => due
  says := fun _ h => ∃ g : Addr → Option Obj, (He.frG g as).In h ∧ chk g = due
  of := fun _ s e => ⟨s.heap.get?, He.frG_in, e⟩
  keeps := fun _ _ _ ⟨g, hg, c⟩ k => ⟨g, hg.keeps k, c⟩
abbrev R : PySem.W.OpenRow := PySem.W.OpenLaw.row PySem.Challenge.rw_gunclocks_k66_whole_called_by_names
def ob (s : PySem.W.SharedT) : Al := chk (HandSHeadRun.getT s)
theorem ob_eq (s : PySem.W.SharedT) : ob s = hk.obs s.abs := by
  have e : HandSHeadRun.getT s = s.abs.heap.get? := funext (HandSHeadRun.getT_eq s)
  show chk (HandSHeadRun.getT s) = chk s.abs.heap.get?
  rw [e]
theorem run (w : World) : HandSHeadRun.RunEq R (PySem.W.view R.prog [138]) hk ob 20000 loose w := by
  intro os
  kernel_rfl
end Gk
end

section
set_option linter.all false
set_option maxRecDepth 100000
namespace Gk
open PySem PySem.Spec PyProof.Rows L2 Evl

/-! ## data without lists, as it stands in a heap -/
mutual
def Ft (K : PySem.W.Frag) (H : Hp) : PyData → V → Prop
  | .none, v => v = .non
  | .bool b, v => v = .bl b
  | .int i, v => v = .int i
  | .str x, v => v = .str x
  | .tuple ds, v => ∃ a xs, v = .ref a ∧ SqT K H a xs ∧ Fts K H ds xs
  | .list _, _ => False
  | .dict _, _ => False
def Fts (K : PySem.W.Frag) (H : Hp) : List PyData → List V → Prop
  | [], xs => xs = []
  | d :: ds, xs => ∃ v vs, xs = v :: vs ∧ Ft K H d v ∧ Fts K H ds vs
end
/-- every tuple stays -/
def TP (K : PySem.W.Frag) (H H' : Hp) : Prop := (∀ a xs, SqT K H a xs → SqT K H' a xs) ∧ ∀ a C dx fs, H a = some (.ins C dx fs) → H' a = some (.ins C dx fs)
section
variable {K : PySem.W.Frag} {H H' H1 H2 : Hp}
theorem Ex.tp (e : Ex H H') : TP K H H' := ⟨fun _ _ h => ex_t e h, fun _ _ _ _ h => e _ _ h⟩
theorem TP.upd {a : Addr} {xs ys : List V} (h : H a = some (.lst xs)) : TP K H (upd H a (.lst ys)) := ⟨fun b zs q => by
  rcases q with (q | ⟨o, q⟩) | q
  · exact .inl (.inl (by rw [upd_ne (ne_of q h (by intro z; cases z))]; exact q))
  · exact .inl (.inr ⟨o, by rw [upd_ne (ne_of q h (by intro z; cases z))]; exact q⟩)
  · exact .inr q, fun b C dx fs q => by rw [upd_ne (ne_of q h (by intro z; cases z))]; exact q⟩
mutual
theorem Ft.mono (t : TP K H H') : ∀ {d : PyData} {v : V}, Ft K H d v → Ft K H' d v
  | .none, _, h => h
  | .bool _, _, h => h
  | .int _, _, h => h
  | .str _, _, h => h
  | .tuple _, _, ⟨a, xs, e, s, q⟩ => ⟨a, xs, e, t.1 _ _ s, Fts.mono t q⟩
  | .list _, _, h => h.elim
  | .dict _, _, h => h.elim
theorem Fts.mono (t : TP K H H') : ∀ {ds : List PyData} {vs : List V}, Fts K H ds vs → Fts K H' ds vs
  | [], _, h => h
  | _ :: _, _, ⟨v, vs, e, q, r⟩ => ⟨v, vs, e, Ft.mono t q, Fts.mono t r⟩
end
mutual
theorem Ft.dp : ∀ {d : PyData} {v : V}, Ft K H d v → Dp K H v d
  | .none, v, h => by
    have e : v = .non := h
    subst e
    exact .non
  | .bool b, v, h => by
    have e : v = .bl b := h
    subst e
    exact .bl b
  | .int i, v, h => by
    have e : v = .int i := h
    subst e
    exact .int i
  | .str x, v, h => by
    have e : v = .str x := h
    subst e
    exact .str x
  | .tuple _, _, ⟨a, xs, e, s, q⟩ => by
    subst e
    exact .tup s (Fts.dp q)
  | .list _, _, h => h.elim
  | .dict _, _, h => h.elim
theorem Fts.dp : ∀ {ds : List PyData} {vs : List V}, Fts K H ds vs → DpAll K H vs ds
  | [], vs, h => by
    have e : vs = [] := h
    subst e
    exact .nil
  | _ :: _, _, ⟨v, vs, e, q, r⟩ => by
    subst e
    exact .cons (Ft.dp q) (Fts.dp r)
end
theorem Fts.len : ∀ {ds : List PyData} {vs : List V}, Fts K H ds vs → vs.length = ds.length
  | [], vs, h => by
    have e : vs = [] := h
    subst e
    rfl
  | _ :: ds, _, ⟨v, vs, e, q, r⟩ => by
    subst e
    exact congrArg Nat.succ (Fts.len r)
theorem Fts.get : ∀ {ds : List PyData} {vs : List V} {i : Nat} {d : PyData}, Fts K H ds vs → ds[i]? = some d → ∃ v, vs[i]? = some v ∧ Ft K H d v
  | [], _, _, _, _, h => by simp at h
  | x :: ds, _, 0, d, ⟨v, vs, e, q, r⟩, h => by
    have e2 : x = d := Option.some.inj h
    subst e e2
    exact ⟨v, rfl, q⟩
  | x :: ds, _, i + 1, d, ⟨v, vs, e, q, r⟩, h => by
    subst e
    exact Fts.get (i := i) r h
theorem Fts.get' : ∀ {ds : List PyData} {vs : List V} {i : Nat} {v : V}, Fts K H ds vs → vs[i]? = some v → ∃ d, ds[i]? = some d ∧ Ft K H d v
  | [], vs, i, v, h, q => by
    have e : vs = [] := h
    subst e
    simp at q
  | x :: ds, _, 0, v, ⟨u, vs, e, q, r⟩, h => by
    subst e
    have e2 : u = v := Option.some.inj h
    subst e2
    exact ⟨x, rfl, q⟩
  | x :: ds, _, i + 1, v, ⟨u, vs, e, q, r⟩, h => by
    subst e
    exact Fts.get' (i := i) r h
theorem Fts.app : ∀ {ds es : List PyData} {vs ws : List V}, Fts K H ds vs → Fts K H es ws → Fts K H (ds ++ es) (vs ++ ws)
  | [], es, vs, ws, h, q => by
    have e : vs = [] := h
    subst e
    exact q
  | _ :: ds, es, _, ws, ⟨v, vs, e, q, r⟩, z => by
    subst e
    exact ⟨v, vs ++ ws, rfl, q, Fts.app r z⟩
theorem Fts.take : ∀ (n : Nat) {ds : List PyData} {vs : List V}, Fts K H ds vs → Fts K H (ds.take n) (vs.take n)
  | 0, ds, vs, h => by simp [Fts]
  | n + 1, [], vs, h => by
    have e : vs = [] := h
    subst e
    rfl
  | n + 1, _ :: ds, _, ⟨v, vs, e, q, r⟩ => by
    subst e
    exact ⟨v, vs.take n, rfl, q, Fts.take n r⟩
theorem Fts.drop : ∀ (n : Nat) {ds : List PyData} {vs : List V}, Fts K H ds vs → Fts K H (ds.drop n) (vs.drop n)
  | 0, ds, vs, h => by simpa using h
  | n + 1, [], vs, h => by
    have e : vs = [] := h
    subst e
    rfl
  | n + 1, _ :: ds, _, ⟨v, vs, e, q, r⟩ => by
    subst e
    exact Fts.drop n r
theorem Fts.set : ∀ {ds : List PyData} {vs : List V} {d : PyData} {v : V} (i : Nat), Fts K H ds vs → Ft K H d v → Fts K H (ds.set i d) (vs.set i v)
  | [], vs, _, _, i, h, _ => by
    have e : vs = [] := h
    subst e
    rfl
  | _ :: ds, _, d, v, 0, ⟨u, us, e, q, r⟩, z => by
    subst e
    exact ⟨v, us, rfl, z, r⟩
  | _ :: ds, _, d, v, i + 1, ⟨u, us, e, q, r⟩, z => by
    subst e
    exact ⟨u, us.set i v, rfl, q, Fts.set i r z⟩
theorem Fts.one {d : PyData} {v : V} (h : Ft K H d v) : Fts K H [d] [v] := ⟨v, [], rfl, h, rfl⟩
theorem Fts.ints : ∀ {ns : List Int} {vs : List V}, Fts K H (ns.map PyData.int) vs → vs = ns.map V.int
  | [], vs, h => h
  | n :: ns, _, ⟨v, vs, e, q, r⟩ => by
    have e2 : v = .int n := q
    subst e e2
    rw [Fts.ints r] <;> rfl
theorem Fts.of_ints : ∀ (ns : List Int), Fts K H (ns.map PyData.int) (ns.map V.int)
  | [] => rfl
  | n :: ns => ⟨.int n, ns.map V.int, rfl, rfl, Fts.of_ints ns⟩
theorem Fts.bools : ∀ {bs : List Bool} {vs : List V}, Fts K H (bs.map PyData.bool) vs → vs = bs.map V.bl
  | [], vs, h => h
  | n :: ns, _, ⟨v, vs, e, q, r⟩ => by
    have e2 : v = .bl n := q
    subst e e2
    rw [Fts.bools r] <;> rfl
end

/-! ## what the slots and the lists hold -/
/-- a post as it stands: its clocks, its tellings, the next number, the list of what was ahead -/
structure PSt where
  cl : PyData
  td : PyData
  n : Int
  l : Addr
def Ins (K : PySem.W.Frag) (H : Hp) (a C : Addr) (s : PSt) : Prop := ∃ dx v1 v2, H a = some (.ins C dx [("clocks", v1), ("told", v2), ("next_number", .int s.n), ("past", .ref s.l)]) ∧ Ft K H s.cl v1 ∧ Ft K H s.td v2
inductive Slot where
  | no | dat (d : PyData) | ref (a : Addr) | ins (a C : Addr) (s : PSt)
def SlotOk (K : PySem.W.Frag) (H : Hp) : Slot → Option V → Prop
  | .no, _ => True
  | .dat d, x => ∃ v, x = some v ∧ Ft K H d v
  | .ref a, x => x = some (.ref a)
  | .ins a C s, x => x = some (.ref a) ∧ Ins K H a C s
def SlotsOk (K : PySem.W.Frag) (H : Hp) : List Slot → L2.St → Prop
  | [], _ => True
  | s :: G, t => ∃ x r, t = x :: r ∧ SlotOk K H s x ∧ SlotsOk K H G r
abbrev Lists := List (Addr × List PyData)
structure EnvE (K : PySem.W.Frag) (G : List Slot) (D : Lists) (t : L2.St) (H : Hp) : Prop where
  slots : SlotsOk K H G t
  nd : (D.map (·.1)).Nodup
  lists : ∀ p ∈ D, ∃ vs, H p.1 = some (.lst vs) ∧ Fts K H p.2 vs
section
variable {K : PySem.W.Frag} {H H' : Hp} {G : List Slot} {D : Lists} {t : L2.St}
theorem SlotOk.mono (h : TP K H H') : ∀ {s : Slot} {x : Option V}, SlotOk K H s x → SlotOk K H' s x
  | .no, _, _ => True.intro
  | .dat _, _, ⟨v, e, q⟩ => ⟨v, e, q.mono h⟩
  | .ref _, _, q => q
  | .ins _ _ _, _, ⟨q, dx, v1, v2, h1, h2, h3⟩ => ⟨q, dx, v1, v2, h.2 _ _ _ _ h1, h2.mono h, h3.mono h⟩
theorem SlotsOk.mono (h : TP K H H') : ∀ {G : List Slot} {t : L2.St}, SlotsOk K H G t → SlotsOk K H' G t
  | [], _, _ => True.intro
  | _ :: _, _, ⟨x, r, e, q, z⟩ => ⟨x, r, e, q.mono h, SlotsOk.mono h z⟩
theorem EnvE.mono (e : Ex H H') (E : EnvE K G D t H) : EnvE K G D t H' :=
  ⟨E.slots.mono (Ex.tp e), E.nd, fun p hp => let ⟨vs, h1, h2⟩ := E.lists p hp; ⟨vs, e _ _ h1, h2.mono (Ex.tp e)⟩⟩
theorem SlotsOk.get : ∀ {G : List Slot} {t : L2.St} {i : Nat} {s : Slot}, SlotsOk K H G t → G[i]? = some s → ∃ x, t[i]? = some x ∧ SlotOk K H s x
  | [], _, _, _, _, h => by simp at h
  | s0 :: G, _, 0, s, ⟨x, r, e, q, z⟩, h => by
    have e2 : s0 = s := Option.some.inj h
    subst e e2
    exact ⟨x, rfl, q⟩
  | _ :: G, _, i + 1, s, ⟨x, r, e, q, z⟩, h => by
    subst e
    exact SlotsOk.get (i := i) z h
theorem SlotsOk.set : ∀ {G : List Slot} {t : L2.St} (i : Nat) {s : Slot} {x : Option V}, SlotsOk K H G t → SlotOk K H s x → SlotsOk K H (G.set i s) (t.set i x)
  | [], _, _, _, _, _, _ => True.intro
  | _ :: G, _, 0, s, x, ⟨y, r, e, q, z⟩, h => by
    subst e
    exact ⟨x, r, rfl, h, z⟩
  | _ :: G, _, i + 1, s, x, ⟨y, r, e, q, z⟩, h => by
    subst e
    exact ⟨y, r.set i x, rfl, q, SlotsOk.set i z h⟩
theorem EnvE.dat {i : Nat} {d : PyData} (E : EnvE K G D t H) (h : G[i]? = some (.dat d)) : ∃ v, t[i]? = some (some v) ∧ Ft K H d v := by
  obtain ⟨x, e, v, e2, f⟩ := E.slots.get h
  exact ⟨v, by rw [e, e2], f⟩
theorem EnvE.rf {i : Nat} {a : Addr} (E : EnvE K G D t H) (h : G[i]? = some (.ref a)) : t[i]? = some (some (.ref a)) := by
  obtain ⟨x, e, e2⟩ := E.slots.get h
  have e3 : x = some (.ref a) := e2
  rw [e, e3]
theorem EnvE.put {i : Nat} {d : PyData} {v : V} (E : EnvE K G D t H) (h : Ft K H d v) : EnvE K (G.set i (.dat d)) D (t.set i (some v)) H :=
  ⟨E.slots.set i ⟨v, rfl, h⟩, E.nd, E.lists⟩
theorem EnvE.putR {i : Nat} {a : Addr} (E : EnvE K G D t H) : EnvE K (G.set i (.ref a)) D (t.set i (some (.ref a))) H :=
  ⟨E.slots.set i rfl, E.nd, E.lists⟩
/-- a further list, new -/
theorem EnvE.more {a : Addr} {ds : List PyData} {vs : List V} (E : EnvE K G D t H) (n : ∀ p ∈ D, p.1 ≠ a) (h : H a = some (.lst vs)) (f : Fts K H ds vs) : EnvE K G ((a, ds) :: D) t H := by
  refine ⟨E.slots, ?_, fun p hp => ?_⟩
  · rw [List.map_cons, List.nodup_cons]
    refine ⟨fun hm => ?_, E.nd⟩
    obtain ⟨p, hp, e⟩ := List.mem_map.mp hm
    exact n p hp e
  · rcases List.mem_cons.mp hp with rfl | hp
    · exact ⟨vs, h, f⟩
    · exact E.lists p hp
theorem EnvE.less {p : Addr × List PyData} (E : EnvE K G (p :: D) t H) : EnvE K G D t H :=
  ⟨E.slots, (List.nodup_cons.mp (by rw [← List.map_cons (f := fun q : Addr × List PyData => q.1)]; exact E.nd)).2, fun q hq => E.lists q (List.mem_cons_of_mem _ hq)⟩
/-- a list is changed -/
theorem EnvE.upd {a : Addr} {ds es : List PyData} {ws : List V} {D1 D2 : Lists} (E : EnvE K G (D1 ++ (a, ds) :: D2) t H) (f : Fts K H es ws) : EnvE K G (D1 ++ (a, es) :: D2) t (upd H a (.lst ws)) := by
  obtain ⟨vs, ha, _⟩ := E.lists (a, ds) (List.mem_append_right _ (List.mem_cons_self ..))
  have tp : TP K H (L2.upd H a (.lst ws)) := TP.upd ha
  have nd := E.nd
  refine ⟨E.slots.mono tp, ?_, fun p hp => ?_⟩
  · rw [List.map_append, List.map_cons] at nd ⊢
    exact nd
  · rw [List.map_append, List.map_cons] at nd
    rcases List.mem_append.mp hp with h | h
    · have ne : p.1 ≠ a := fun z => by
        have := (List.nodup_append.mp nd).2.2 p.1 (List.mem_map_of_mem h) a (List.mem_cons_self ..)
        exact this z
      obtain ⟨vs', h1, h2⟩ := E.lists p (List.mem_append_left _ h)
      exact ⟨vs', by rw [upd_ne ne]; exact h1, h2.mono tp⟩
    · rcases List.mem_cons.mp h with rfl | h
      · exact ⟨ws, upd_same, f.mono tp⟩
      · have ne : p.1 ≠ a := fun z => by
          have h3 := (List.nodup_cons.mp (List.nodup_append.mp nd).2.1).1
          exact h3 (List.mem_map.mpr ⟨p, h, z⟩)
        obtain ⟨vs', h1, h2⟩ := E.lists p (List.mem_append_right _ (List.mem_cons_of_mem _ h))
        exact ⟨vs', by rw [upd_ne ne]; exact h1, h2.mono tp⟩
end

/-! ## readings: an expression is worth a datum, a list; a test an answer -/
def tD (K : PySem.W.Frag) (G : List Slot) (D : Lists) (d : PyData) : TE := fun t H Q => EnvE K G D t H ∧ ∀ v H', Ex H H' → Ft K H' d v → Q v H'
/-- a new list -/
def tL (K : PySem.W.Frag) (G : List Slot) (D : Lists) (ds : List PyData) : TE := fun t H Q => EnvE K G D t H ∧ ∀ a vs H', H a = none → Ex H H' → H' a = some (.lst vs) → Fts K H' ds vs → Q (.ref a) H'
/-- some list -/
def tR (K : PySem.W.Frag) (G : List Slot) (D : Lists) (ds : List PyData) : TE := fun t H Q => EnvE K G D t H ∧ ∀ a vs H', Ex H H' → H' a = some (.lst vs) → Fts K H' ds vs → Q (.ref a) H'
def tQ (K : PySem.W.Frag) (G : List Slot) (D : Lists) (b : Bool) : TT := fun t H Q => EnvE K G D t H ∧ ∀ H', Ex H H' → Q b H'
def tDs (K : PySem.W.Frag) (G : List Slot) (D : Lists) (ds : List PyData) : TA := fun t H Q => EnvE K G D t H ∧ ∀ vs H', Ex H H' → Fts K H' ds vs → Q vs H'
abbrev PD (X : Cx) (G : List Slot) (D : Lists) (e : Expr) (d : PyData) : Prop := PE X e (tD X.K G D d)
abbrev PL (X : Cx) (G : List Slot) (D : Lists) (e : Expr) (ds : List PyData) : Prop := PE X e (tL X.K G D ds)
abbrev PR (X : Cx) (G : List Slot) (D : Lists) (e : Expr) (ds : List PyData) : Prop := PE X e (tR X.K G D ds)
abbrev PQ (X : Cx) (G : List Slot) (D : Lists) (e : Expr) (b : Bool) : Prop := PT X e (tQ X.K G D b)
abbrev PDs (X : Cx) (G : List Slot) (D : Lists) (es : List Expr) (ds : List PyData) : Prop := PA X es (tDs X.K G D ds)
section
variable {X : Cx} {e : Expr} {es : List Expr}
theorem PE.by_ {t u : TE} (h : PE X e t) (i : ∀ s H Q, u s H Q → t s H Q) : PE X e u := ⟨fun p s c H Q I q => h.run p s c H Q I (i _ _ _ q)⟩
theorem PT.by_ {t u : TT} (h : PT X e t) (i : ∀ s H Q, u s H Q → t s H Q) : PT X e u := ⟨fun p s c H Q I q => h.run p s c H Q I (i _ _ _ q)⟩
theorem PW.by_ {t u : TT} (h : PW X e t) (i : ∀ s H Q, u s H Q → t s H Q) : PW X e u := ⟨fun w p s c H Q I q => h.run w p s c H Q I (i _ _ _ q)⟩
theorem PA.by_ {t u : TA} (h : PA X es t) (i : ∀ s H Q, u s H Q → t s H Q) : PA X es u := ⟨fun z p s c H Q I q => h.run z p s c H Q I (i _ _ _ q)⟩
theorem PS.by_ {st : Stmt} {t u : TS} (h : PS X st t) (i : ∀ D s H, u D s H → t D s H) : PS X st u := ⟨fun p s c H D I q => h.run p s c H D I (i _ _ _ q)⟩
theorem PSs.by_ {st : List Stmt} {t u : TS} (h : PSs X st t) (i : ∀ D s H, u D s H → t D s H) : PSs X st u := ⟨fun p s c H D I q => h.run p s c H D I (i _ _ _ q)⟩
theorem PE.dead : PE X e (fun _ _ _ => False) := ⟨fun _ _ _ _ _ _ h => h.elim⟩
theorem PT.dead : PT X e (fun _ _ _ => False) := ⟨fun _ _ _ _ _ _ h => h.elim⟩
theorem PW.dead : PW X e (fun _ _ _ => False) := ⟨fun _ _ _ _ _ _ _ h => h.elim⟩
variable {G : List Slot} {D : Lists} {d d1 d2 : PyData} {ds : List PyData} {pos : Pos} {a b : Expr}
theorem pl_r (h : PL X G D e ds) : PR X G D e ds := PE.by_ h fun t H Q ⟨E, q⟩ => ⟨E, fun a vs H' _ x y z => q a vs H' x y z⟩
theorem pd_var (i : Nat) {x : Str} (h : G[i]? = some (.dat d) := by rfl) (hN : X.N[i]? = some x := by rfl) (hv : Vis X.env.scope x := by first | exact Or.inl rfl | exact Or.inr (Or.inl rfl) | exact Or.inr (Or.inr rfl))
    (hd : (x == ("__debug__" : Str)) = false := by decide) (hcd : (x == ("__classdict__" : Str)) = false := by decide) : PD X G D (.Name x pos) d :=
  PE.by_ (pe_var hN hv hd hcd) fun t H Q ⟨E, q⟩ => let ⟨v, e1, f⟩ := E.dat h; ⟨v, e1, q v H (Ex.refl H) f⟩
/-- a list that a slot holds -/
theorem pr_var (i : Nat) {x : Str} {p : Addr} (h : G[i]? = some (.ref p) := by rfl) (hp : (p, ds) ∈ D := by simp) (hN : X.N[i]? = some x := by rfl) (hv : Vis X.env.scope x := by first | exact Or.inl rfl | exact Or.inr (Or.inl rfl) | exact Or.inr (Or.inr rfl))
    (hd : (x == ("__debug__" : Str)) = false := by decide) (hcd : (x == ("__classdict__" : Str)) = false := by decide) : PR X G D (.Name x pos) ds :=
  PE.by_ (pe_var hN hv hd hcd) fun t H Q ⟨E, q⟩ => let ⟨vs, h1, h2⟩ := E.lists _ hp; ⟨_, E.rf h, q p vs H (Ex.refl H) h1 h2⟩
theorem pd_int {i j} : PD X G D (.Constant (.int i) j pos) (.int i) := PE.by_ pe_int fun t H Q ⟨_, q⟩ => q _ H (Ex.refl H) rfl
theorem pd_non {j} : PD X G D (.Constant .none j pos) .none := PE.by_ pe_non fun t H Q ⟨_, q⟩ => q _ H (Ex.refl H) rfl
theorem pd_bl {b j} : PD X G D (.Constant (.bool b) j pos) (.bool b) := PE.by_ pe_bl fun t H Q ⟨_, q⟩ => q _ H (Ex.refl H) rfl
theorem pd_str {x j} : PD X G D (.Constant (.str x) j pos) (.str x) := PE.by_ pe_str fun t H Q ⟨_, q⟩ => q _ H (Ex.refl H) rfl
/-- a constant of the module -/
theorem pd_glob {x : Str} {v : V} {u : Value} (hm : X.mg x = some u) (r : RelV v u) (f : ∀ H, Ft X.K H d v) (hg : Gl X x := by rfl) (hd : (x == ("__debug__" : Str)) = false := by decide) : PD X G D (.Name x pos) d :=
  PE.by_ (pe_glob hg hm r hd) fun t H Q ⟨_, q⟩ => q v H (Ex.refl H) (f H)
theorem pds_nil : PDs X G D [] [] := PA.by_ pa_nil fun t H Q ⟨_, q⟩ => q [] H (Ex.refl H) rfl
theorem pds_cons (h : PD X G D e d) (hr : PDs X G D es ds) (hs : starEach (e :: es) X.env = (false, eval e X.env) :: starEach es X.env := by rfl) : PDs X G D (e :: es) (d :: ds) :=
  PA.by_ (pa_cons h hr hs) fun t H Q ⟨E, q⟩ => ⟨E, fun v H1 e1 f1 => ⟨E.mono e1, fun vs H2 e2 f2 => q (v :: vs) H2 (e1.trans e2) ⟨v, vs, rfl, f1.mono (Ex.tp e2), f2⟩⟩⟩
theorem ft_tup {K : PySem.W.Frag} {H : Hp} {p : Addr} {vs : List V} (h : H p = none) (f : Fts K H ds vs) : Ft K (upd H p (.tup vs)) (.tuple ds) (.ref p) :=
  ⟨p, vs, rfl, SqT.of upd_same, f.mono (Ex.tp (Ex.new h))⟩
theorem pd_tup {k} (h : PDs X G D es ds) (hl : ds.length ≤ 1000 := by exact Nat.le_of_ble_eq_true rfl) : PD X G D (.Tuple es k pos) (.tuple ds) :=
  PE.by_ (pe_tup h) fun t H Q ⟨E, q⟩ => ⟨E, fun vs H1 e1 f => ⟨sz_of (by rw [f.len]; omega), fun p hp => q _ _ (e1.trans (Ex.new hp)) (ft_tup hp f)⟩⟩
theorem pl_lst (h : PDs X G D es ds) (hl : ds.length ≤ 1000 := by exact Nat.le_of_ble_eq_true rfl) : PL X G D (.List es pos) ds :=
  PE.by_ (pe_lst h) fun t H Q ⟨E, q⟩ => ⟨E, fun vs H1 e1 f => ⟨sz_of (by rw [f.len]; omega), fun p hp => q p vs _ (fresh_back e1 hp) (e1.trans (Ex.new hp)) upd_same (f.mono (Ex.tp (Ex.new hp)))⟩⟩
theorem at_fts {K : PySem.W.Frag} {H : Hp} {vs : List V} {i : Int} (f : Fts K H ds vs) (h : atI ds i = some d) : ∃ v, atI vs i = some v ∧ Ft K H d v := by
  unfold atI at h ⊢
  rw [f.len]
  cases e : ixN ds.length i with
  | none => rw [e] at h; cases h
  | some j =>
    rw [e] at h
    exact f.get h
/-- an item of a tuple -/
theorem pd_ix {i : Int} (ha : PD X G D a (.tuple ds)) (hb : PD X G D b (.int i)) (h : atI ds i = some d := by rfl) (hp : PlainIx b := by exact fun _ _ => rfl) : PD X G D (.Subscript a b pos) d :=
  PE.by_ (pe_ix ix_tup ha hb hp) fun t H Q ⟨E, q⟩ => ⟨E, fun v H1 e1 f1 => ⟨E.mono e1, fun u H2 e2 f2 => by
    obtain ⟨p, xs, rfl, s, f⟩ := f1.mono (Ex.tp e2)
    have eu : u = .int i := f2
    subst eu
    obtain ⟨z, hz, fz⟩ := at_fts f h
    exact ⟨p, xs, i, z, rfl, rfl, s, hz, q z H2 (e1.trans e2) fz⟩⟩⟩
/-- an item of a list -/
theorem pd_ixR {i : Int} (ha : PR X G D a ds) (hb : PD X G D b (.int i)) (h : atI ds i = some d) (hp : PlainIx b := by exact fun _ _ => rfl) : PD X G D (.Subscript a b pos) d :=
  PE.by_ (pe_ix ix_list ha hb hp) fun t H Q ⟨E, q⟩ => ⟨E, fun p vs H1 e1 h1 f1 => ⟨E.mono e1, fun u H2 e2 f2 => by
    have eu : u = .int i := f2
    subst eu
    obtain ⟨z, hz, fz⟩ := at_fts (f1.mono (Ex.tp e2)) h
    exact ⟨p, vs, i, z, rfl, rfl, SqL.of (e2 _ _ h1), hz, q z H2 (e1.trans e2) fz⟩⟩⟩
/-! ### whole numbers -/
section
variable {i j : Int}
theorem pd_opI {op : Operator} {C : Int → Int → Prop} {g : Int → Int → Int} (ho : OpR X (binaryOp op) (rI C fun i j => .int (g i j))) (ha : PD X G D a (.int i)) (hb : PD X G D b (.int j)) (hc : C i j) : PD X G D (.BinOp a op b pos) (.int (g i j)) :=
  PE.by_ (pe_op ho ha hb) fun t H Q ⟨E, q⟩ => ⟨E, fun v H1 e1 f1 => ⟨E.mono e1, fun u H2 e2 f2 => ⟨i, j, f1, f2, hc, q _ H2 (e1.trans e2) rfl⟩⟩⟩
theorem pd_opI0 {op : Operator} {g : Int → Int → Int} (ho : OpR X (binaryOp op) (rI0 fun i j => .int (g i j))) (ha : PD X G D a (.int i)) (hb : PD X G D b (.int j)) : PD X G D (.BinOp a op b pos) (.int (g i j)) :=
  PE.by_ (pe_op ho ha hb) fun t H Q ⟨E, q⟩ => ⟨E, fun v H1 e1 f1 => ⟨E.mono e1, fun u H2 e2 f2 => ⟨i, j, f1, f2, q _ H2 (e1.trans e2) rfl⟩⟩⟩
theorem pd_add (ha : PD X G D a (.int i)) (hb : PD X G D b (.int j)) : PD X G D (.BinOp a .Add b pos) (.int (i + j)) := pd_opI0 op_add ha hb
theorem pd_sub (ha : PD X G D a (.int i)) (hb : PD X G D b (.int j)) : PD X G D (.BinOp a .Sub b pos) (.int (i - j)) := pd_opI0 op_sub ha hb
theorem pd_mul (ha : PD X G D a (.int i)) (hb : PD X G D b (.int j)) (h : CMulW i j) : PD X G D (.BinOp a .Mult b pos) (.int (i * j)) := pd_opI op_mulW ha hb h
theorem pd_fdiv (ha : PD X G D a (.int i)) (hb : PD X G D b (.int j)) (h : CDivW i j) : PD X G D (.BinOp a .FloorDiv b pos) (.int (i / j)) := pd_opI op_fdivW ha hb h
theorem pd_mod (ha : PD X G D a (.int i)) (hb : PD X G D b (.int j)) (h : 0 < j) : PD X G D (.BinOp a .Mod b pos) (.int (i % j)) := pd_opI op_mod ha hb h
end
/-! ### tuples put together, cut -/
theorem pd_cat {es' : List PyData} (ha : PD X G D a (.tuple ds)) (hb : PD X G D b (.tuple es')) (hl : ds.length + es'.length ≤ 1000) : PD X G D (.BinOp a .Add b pos) (.tuple (ds ++ es')) :=
  PE.by_ (pe_op op_catA ha hb) fun t H Q ⟨E, q⟩ => ⟨E, fun v H1 e1 f1 => ⟨E.mono e1, fun u H2 e2 f2 => by
    obtain ⟨p, xs, rfl, s1, g1⟩ := f1.mono (Ex.tp e2)
    obtain ⟨p2, ys, rfl, s2, g2⟩ := f2
    refine ⟨p, p2, xs, ys, rfl, rfl, s1, s2, sz_of (by rw [g1.len, g2.len]; omega), fun hx => ?_, fun hx hy => ?_, fun hx hy r hr => ?_⟩
    · have e0 : ds = [] := List.length_eq_zero_iff.mp (by rw [← g1.len, hx]; rfl)
      subst e0
      exact q _ H2 (e1.trans e2) ⟨p2, ys, rfl, s2, g2⟩
    · have e0 : es' = [] := List.length_eq_zero_iff.mp (by rw [← g2.len, hy]; rfl)
      subst e0
      rw [List.append_nil] at q
      exact q _ H2 (e1.trans e2) ⟨p, xs, rfl, s1, g1⟩
    · exact q _ _ ((e1.trans e2).trans (Ex.new hr)) (ft_tup hr (g1.app g2))⟩⟩
/-- the ends of a slice -/
def tO (K : PySem.W.Frag) (G : List Slot) (D : Lists) (o : Option Int) : TO := fun t H Q => EnvE K G D t H ∧ ∀ H', Ex H H' → Q o H'
theorem qo_none : PO X none (tO X.K G D none) := ⟨fun p s c H Q I q => po_none.run p s c H Q I (q.2 H (Ex.refl H))⟩
theorem qo_some {i : Int} (h : PD X G D e (.int i)) : PO X (some e) (tO X.K G D (some i)) := ⟨fun p s c H Q I q => (po_some h).run p s c H Q I ⟨q.1, fun v H1 e1 f => ⟨i, f, q.2 H1 e1⟩⟩⟩
theorem cut_fts {K : PySem.W.Frag} {H : Hp} {vs : List V} {lo hi : Option Int} (f : Fts K H ds vs) : Fts K H ((ds.drop (HT.sIx ds.length 0 lo)).take (HT.sIx ds.length ds.length hi - HT.sIx ds.length 0 lo)) (cutV vs lo hi) := by
  unfold cutV
  rw [f.len]
  exact (f.drop _).take _
def cutD (ds : List PyData) (lo hi : Option Int) : List PyData := (ds.drop (HT.sIx ds.length 0 lo)).take (HT.sIx ds.length ds.length hi - HT.sIx ds.length 0 lo)
theorem pd_slice {lo hi : Option Expr} {x y : Option Int} {p2 : Pos} (ha : PD X G D a (.tuple ds)) (hl : PO X lo (tO X.K G D x)) (hh : PO X hi (tO X.K G D y)) : PD X G D (.Subscript a (.Slice lo hi none p2) pos) (.tuple (cutD ds x y)) :=
  PE.by_ (pe_slice sl_tupA ha hl hh) fun t H Q ⟨E, q⟩ => ⟨E, fun v H1 e1 f1 => ⟨E.mono e1, fun H2 e2 => ⟨E.mono (e1.trans e2), fun H3 e3 => by
    obtain ⟨p, xs, rfl, s, f⟩ := f1.mono (Ex.tp (e2.trans e3))
    have ee := (e1.trans e2).trans e3
    refine ⟨p, xs, rfl, s, fun hw => ?_, fun _ r hr => ?_⟩
    · have ec : cutD ds x y = ds := by
        rw [f.len] at hw
        unfold cutD
        rw [hw.1, hw.2, List.drop_zero, Nat.sub_zero, List.take_length]
      rw [ec] at q
      exact q _ H3 ee ⟨p, xs, rfl, s, f⟩
    · exact q _ _ (ee.trans (Ex.new hr)) (ft_tup hr (cut_fts f))⟩⟩⟩
end
end Gk
end

section
set_option linter.all false
set_option maxRecDepth 100000
namespace Gk
open PySem PySem.Spec PyProof.Rows L2 Evl

/-! ## depth -/
def sh : Nat → PyData → Bool
  | _, .none => true
  | _, .bool _ => true
  | _, .int _ => true
  | _, .str x => PySem.PyData.canLay0 (.str x)
  | n + 1, .tuple ds => ds.all (sh n)
  | n + 1, .list ds => ds.all (sh n)
  | 0, .tuple _ => false
  | 0, .list _ => false
  | _, .dict _ => false
theorem sh_all {f : PyData → Bool} {n : Nat} (hf : ∀ d, f d = true → d.canLay0 = true ∧ d.depth ≤ n) : ∀ {ds : List PyData}, ds.all f = true → PyData.canLayAll0 ds = true ∧ PyData.depthAll ds ≤ n
  | [], _ => ⟨rfl, Nat.zero_le _⟩
  | d :: ds, h => by
    rw [List.all_cons, Bool.and_eq_true] at h
    obtain ⟨h1, h2⟩ := hf d h.1
    obtain ⟨h3, h4⟩ := sh_all hf h.2
    refine ⟨?_, ?_⟩
    · show (d.canLay0 && PyData.canLayAll0 ds) = true
      rw [h1, h3] <;> rfl
    · show max d.depth (PyData.depthAll ds) ≤ n
      omega
theorem sh_ok : ∀ (n : Nat) (d : PyData), sh n d = true → d.canLay0 = true ∧ d.depth ≤ n
  | _, .none, _ => ⟨rfl, Nat.zero_le _⟩
  | _, .bool _, _ => ⟨rfl, Nat.zero_le _⟩
  | _, .int _, _ => ⟨rfl, Nat.zero_le _⟩
  | _, .str x, h => by
    refine ⟨?_, Nat.zero_le _⟩
    unfold sh at h
    exact h
  | n + 1, .tuple ds, h => by
    have h' : ds.all (sh n) = true := h
    obtain ⟨h1, h2⟩ := sh_all (sh_ok n) h'
    exact ⟨h1, Nat.succ_le_succ h2⟩
  | n + 1, .list ds, h => by
    have h' : ds.all (sh n) = true := h
    obtain ⟨h1, h2⟩ := sh_all (sh_ok n) h'
    exact ⟨h1, Nat.succ_le_succ h2⟩
  | 0, .tuple ds, h => by cases h
  | 0, .list ds, h => by cases h
  | 0, .dict _, h => by cases h
  | _ + 1, .dict _, h => by cases h
theorem sh_shaped {n : Nat} {d : PyData} (h : sh n d = true) (hn : n ≤ 64 := by decide) : SeqAt.shaped d = true := by
  obtain ⟨h1, h2⟩ := sh_ok n d h
  unfold SeqAt.shaped
  rw [h1, Bool.true_and]
  exact decide_eq_true (Nat.le_trans h2 hn)
theorem sh_mono : ∀ {n m : Nat} {d : PyData}, sh n d = true → n ≤ m → sh m d = true
  | _, _, .none, _, _ => by unfold sh; rfl
  | _, _, .bool _, _, _ => by unfold sh; rfl
  | _, _, .int _, _, _ => by unfold sh; rfl
  | _, _, .str x, h, _ => by
    unfold sh at h ⊢
    exact h
  | n + 1, m + 1, .tuple ds, h, hm => by
    have h' : ds.all (sh n) = true := h
    show ds.all (sh m) = true
    exact List.all_eq_true.mpr fun d hd => sh_mono (List.all_eq_true.mp h' d hd) (by omega)
  | n + 1, m + 1, .list ds, h, hm => by
    have h' : ds.all (sh n) = true := h
    show ds.all (sh m) = true
    exact List.all_eq_true.mpr fun d hd => sh_mono (List.all_eq_true.mp h' d hd) (by omega)
  | n + 1, 0, .tuple ds, h, hm => by omega
  | n + 1, 0, .list ds, h, hm => by omega
  | 0, _, .tuple ds, h, _ => by cases h
  | 0, _, .list ds, h, _ => by cases h
  | 0, _, .dict _, h, _ => by cases h
  | _ + 1, _, .dict _, h, _ => by cases h

section
variable {X : Cx} {e : Expr} {es : List Expr} {G : List Slot} {D : Lists} {d d1 d2 : PyData} {ds : List PyData} {pos : Pos} {a b c : Expr} {p q : Bool}
/-! ## comparisons -/
/-- a comparison whose answer is the datum r -/
structure CD (X : Cx) (G : List Slot) (D : Lists) (op : CmpOp) (a b : Expr) (k : Bool) : Prop where
  ex : ∃ (ta tb : TE) (r : R2), OpR X (compareOp op) r ∧ PE X a ta ∧ PE X b tb ∧ ∀ (t : L2.St) (H : Hp) (Q : VK), EnvE X.K G D t H → (∀ H', Ex H H' → Q (.bl k) H') → tOp r ta tb t H Q
theorem pd_cmp {op : CmpOp} (h : CD X G D op a b p) (hm : behindInMarks op b = false := by first | exact nomark _ | rfl) : PD X G D (.Compare a [op] [b] pos) (.bool p) := by
  obtain ⟨ta, tb, r, ho, ha, hb, i⟩ := h.ex
  exact PE.by_ (pe_cmpR ho ha hb hm) fun t H Q ⟨E, q⟩ => i t H Q E fun H' e => q _ H' e rfl
theorem pq_cmp {op : CmpOp} (h : CD X G D op a b p) (hm : behindInMarks op b = false := by first | exact nomark _ | rfl) : PQ X G D (.Compare a [op] [b] pos) p := by
  obtain ⟨ta, tb, r, ho, ha, hb, i⟩ := h.ex
  exact PT.by_ (pt_cmpR ho ha hb hm) fun t H Q ⟨E, q⟩ => i t H _ E fun H' e => ⟨p, rfl, q H' e⟩
section
variable {i j : Int}
theorem cd_int {op : CmpOp} {g : Int → Int → Bool} (ho : OpR X (compareOp op) (rI0 fun i j => .bl (g i j))) (ha : PD X G D a (.int i)) (hb : PD X G D b (.int j)) : CD X G D op a b (g i j) :=
  ⟨_, _, _, ho, ha, hb, fun t H Q E q => ⟨E, fun v H1 e1 f1 => ⟨E.mono e1, fun u H2 e2 f2 => ⟨i, j, f1, f2, q H2 (e1.trans e2)⟩⟩⟩⟩
theorem cd_lt (ha : PD X G D a (.int i)) (hb : PD X G D b (.int j)) : CD X G D .Lt a b (decide (i < j)) := cd_int op_lt ha hb
theorem cd_le (ha : PD X G D a (.int i)) (hb : PD X G D b (.int j)) : CD X G D .LtE a b (decide (i ≤ j)) := cd_int op_le ha hb
theorem cd_gt (ha : PD X G D a (.int i)) (hb : PD X G D b (.int j)) : CD X G D .Gt a b (decide (j < i)) := cd_int op_gt ha hb
theorem cd_ge (ha : PD X G D a (.int i)) (hb : PD X G D b (.int j)) : CD X G D .GtE a b (decide (j ≤ i)) := cd_int op_ge ha hb
end
theorem cd_eq {k : Nat} (hr : Room k X.A) (ha : PD X G D a d1) (hb : PD X G D b d2) (s1 : SeqAt.shaped d1 = true) (s2 : SeqAt.shaped d2 = true) : CD X G D .Eq a b (PyData.eqv d1 d2) :=
  ⟨_, _, _, op_eqD hr.units, ha, hb, fun t H Q E q => ⟨E, fun v H1 e1 f1 => ⟨E.mono e1, fun u H2 e2 f2 => ⟨d1, d2, (f1.mono (Ex.tp e2)).dp, f2.dp, s1, s2, q H2 (e1.trans e2)⟩⟩⟩⟩
theorem cd_ne {k : Nat} (hr : Room k X.A) (ha : PD X G D a d1) (hb : PD X G D b d2) (s1 : SeqAt.shaped d1 = true) (s2 : SeqAt.shaped d2 = true) : CD X G D .NotEq a b (!PyData.eqv d1 d2) :=
  ⟨_, _, _, op_neD hr.units, ha, hb, fun t H Q E q => ⟨E, fun v H1 e1 f1 => ⟨E.mono e1, fun u H2 e2 f2 => ⟨d1, d2, (f1.mono (Ex.tp e2)).dp, f2.dp, s1, s2, q H2 (e1.trans e2)⟩⟩⟩⟩
def isNone : PyData → Bool
  | .none => true
  | _ => false
theorem ft_non {K : PySem.W.Frag} {H : Hp} {v : V} : ∀ {d : PyData}, Ft K H d v → decide (v = .non) = isNone d
  | .none, h => by
    have e : v = .non := h
    subst e
    rfl
  | .bool _, h => by
    have e : v = .bl _ := h
    subst e
    rfl
  | .int _, h => by
    have e : v = .int _ := h
    subst e
    rfl
  | .str _, h => by
    have e : v = .str _ := h
    subst e
    rfl
  | .tuple _, ⟨_, _, e, _⟩ => by
    subst e
    rfl
  | .list _, h => h.elim
  | .dict _, h => h.elim
theorem cd_isN {k : Nat} {p2 : Pos} (ha : PD X G D a d) : CD X G D .Is a (.Constant .none k p2) (isNone d) :=
  ⟨_, _, _, op_isN, ha, pe_non, fun t H Q E q => ⟨E, fun v H1 e1 f1 => ⟨rfl, by rw [ft_non f1]; exact q H1 e1⟩⟩⟩
theorem cd_notN {k : Nat} {p2 : Pos} (ha : PD X G D a d) : CD X G D .IsNot a (.Constant .none k p2) (!isNone d) :=
  ⟨_, _, _, op_notN, ha, pe_non, fun t H Q E q => ⟨E, fun v H1 e1 f1 => ⟨rfl, by rw [ft_non f1]; exact q H1 e1⟩⟩⟩
theorem cd_isB (ha : PD X G D a (.bool p)) (hb : PD X G D b (.bool q)) : CD X G D .Is a b (decide (p = q)) :=
  ⟨_, _, _, op_isBl, ha, hb, fun t H Q E r => ⟨E, fun v H1 e1 f1 => ⟨E.mono e1, fun u H2 e2 f2 => ⟨p, q, f1, f2, r H2 (e1.trans e2)⟩⟩⟩⟩
theorem cd_notB (ha : PD X G D a (.bool p)) (hb : PD X G D b (.bool q)) : CD X G D .IsNot a b (!decide (p = q)) :=
  ⟨_, _, _, op_notBl, ha, hb, fun t H Q E r => ⟨E, fun v H1 e1 f1 => ⟨E.mono e1, fun u H2 e2 f2 => ⟨p, q, f1, f2, r H2 (e1.trans e2)⟩⟩⟩⟩
theorem inV_int (n : Int) : ∀ ns : List Int, inV (.int n) (ns.map V.int) = decide (n ∈ ns)
  | [] => rfl
  | m :: ns => by
    have ih := inV_int n ns
    unfold inV at ih ⊢
    rw [List.map_cons, List.any_cons, ih]
    have e : eqV (V.int m) (V.int n) = decide (m = n) := by
      unfold eqV
      first | rfl | (rw [Bool.beq_eq_decide_eq])
    rw [e]
    by_cases h : m = n
    · subst h
      simp
    · have h2 : ¬ n = m := fun z => h z.symm
      simp [h, h2]
theorem flat_ints (ns : List Int) : (ns.map V.int).all flatV = true := by
  rw [List.all_map]
  exact List.all_eq_true.mpr fun _ _ => rfl
theorem cd_inT {n : Int} {ns : List Int} (ha : PD X G D a (.int n)) (hb : PD X G D b (.tuple (ns.map .int))) : CD X G D .In a b (decide (n ∈ ns)) :=
  ⟨_, _, _, op_in_seq, ha, hb, fun t H Q E r => ⟨E, fun v H1 e1 f1 => ⟨E.mono e1, fun u H2 e2 f2 => by
    obtain ⟨z, xs, rfl, s, f⟩ := f2
    have ev : v = .int n := f1
    have ex := f.ints
    subst ev ex
    refine ⟨z, _, rfl, .inr s, rfl, flat_ints ns, ?_⟩
    show Q (.bl (inV (.int n) (ns.map V.int))) H2
    rw [inV_int]
    exact r H2 (e1.trans e2)⟩⟩⟩
theorem cd_notInT {n : Int} {ns : List Int} (ha : PD X G D a (.int n)) (hb : PD X G D b (.tuple (ns.map .int))) : CD X G D .NotIn a b (!decide (n ∈ ns)) :=
  ⟨_, _, _, op_notIn_seq, ha, hb, fun t H Q E r => ⟨E, fun v H1 e1 f1 => ⟨E.mono e1, fun u H2 e2 f2 => by
    obtain ⟨z, xs, rfl, s, f⟩ := f2
    have ev : v = .int n := f1
    have ex := f.ints
    subst ev ex
    refine ⟨z, _, rfl, .inr s, rfl, flat_ints ns, ?_⟩
    show Q (.bl (!inV (.int n) (ns.map V.int))) H2
    rw [inV_int]
    exact r H2 (e1.trans e2)⟩⟩⟩
theorem cd_inL {n : Int} {ns : List Int} (ha : PD X G D a (.int n)) (hb : PR X G D b (ns.map .int)) : CD X G D .In a b (decide (n ∈ ns)) :=
  ⟨_, _, _, op_in_seq, ha, hb, fun t H Q E r => ⟨E, fun v H1 e1 f1 => ⟨E.mono e1, fun z xs H2 e2 s f => by
    have ev : v = .int n := f1
    have ex := f.ints
    subst ev ex
    refine ⟨z, _, rfl, .inl (SqL.of s), rfl, flat_ints ns, ?_⟩
    show Q (.bl (inV (.int n) (ns.map V.int))) H2
    rw [inV_int]
    exact r H2 (e1.trans e2)⟩⟩⟩
theorem cd_notInL {n : Int} {ns : List Int} (ha : PD X G D a (.int n)) (hb : PR X G D b (ns.map .int)) : CD X G D .NotIn a b (!decide (n ∈ ns)) :=
  ⟨_, _, _, op_notIn_seq, ha, hb, fun t H Q E r => ⟨E, fun v H1 e1 f1 => ⟨E.mono e1, fun z xs H2 e2 s f => by
    have ev : v = .int n := f1
    have ex := f.ints
    subst ev ex
    refine ⟨z, _, rfl, .inl (SqL.of s), rfl, flat_ints ns, ?_⟩
    show Q (.bl (!inV (.int n) (ns.map V.int))) H2
    rw [inV_int]
    exact r H2 (e1.trans e2)⟩⟩⟩
theorem cd_inD {k : Nat} (hr : Room k X.A) (ha : PD X G D a d) (hb : PR X G D b ds) (s1 : SeqAt.shaped d = true) (s2 : SeqAt.shaped (.list ds) = true) : CD X G D .In a b (ds.any fun z => PyData.eqv z d) :=
  ⟨_, _, _, op_inD (by have := hr.un; omega), ha, hb, fun t H Q E r => ⟨E, fun v H1 e1 f1 => ⟨E.mono e1, fun z xs H2 e2 s f => ⟨d, ds, (f1.mono (Ex.tp e2)).dp, .lst (SqL.of s) f.dp, s1, s2, r H2 (e1.trans e2)⟩⟩⟩⟩
/-- two comparisons in a row, of whole numbers -/
theorem pd_chain {op op' : CmpOp} {g g' : Int → Int → Bool} {i j k : Int} (ho : OpR X (compareOp op) (rI0 fun i j => .bl (g i j))) (ho' : OpR X (compareOp op') (rI0 fun i j => .bl (g' i j))) (ha : PD X G D a (.int i)) (hb : PD X G D b (.int j)) (hc : PD X G D c (.int k))
    (hm : lastMarks [op, op'] [b, c] = false := by with_unfolding_all rfl) : PD X G D (.Compare a [op, op'] [b, c] pos) (.bool (g i j && g' j k)) :=
  PE.by_ (pe_chain ho ho' ha hb hc hm) fun t H Q ⟨E, r⟩ => ⟨E, fun v H1 e1 f1 => ⟨E.mono e1, fun u H2 e2 f2 => by
    refine ⟨i, j, f1, f2, _, rfl, ?_⟩
    have ee := e1.trans e2
    cases hg : g i j with
    | false =>
      refine iteF ?_
      rw [hg] at r
      exact r _ H2 ee rfl
    | true =>
      refine iteT ⟨E.mono ee, fun w H3 e3 f3 => ⟨j, k, f2, f3, ?_⟩⟩
      rw [hg] at r
      exact r _ H3 (ee.trans e3) rfl⟩⟩
theorem pq_chain {op op' : CmpOp} {g g' : Int → Int → Bool} {i j k : Int} (ho : OpR X (compareOp op) (rI0 fun i j => .bl (g i j))) (ho' : OpR X (compareOp op') (rI0 fun i j => .bl (g' i j))) (ha : PD X G D a (.int i)) (hb : PD X G D b (.int j)) (hc : PD X G D c (.int k))
    (hm : lastMarks [op, op'] [b, c] = false := by with_unfolding_all rfl) : PQ X G D (.Compare a [op, op'] [b, c] pos) (g i j && g' j k) :=
  PT.by_ (pt_chain ho ho' ha hb hc hm) fun t H Q ⟨E, r⟩ => ⟨E, fun v H1 e1 f1 => ⟨E.mono e1, fun u H2 e2 f2 => by
    refine ⟨i, j, f1, f2, _, rfl, ?_⟩
    have ee := e1.trans e2
    cases hg : g i j with
    | false =>
      refine iteF ⟨_, rfl, ?_⟩
      rw [hg] at r
      exact r H2 ee
    | true =>
      refine iteT ⟨E.mono ee, fun w H3 e3 f3 => ⟨j, k, f2, f3, _, rfl, ?_⟩⟩
      rw [hg] at r
      exact r H3 (ee.trans e3)⟩⟩

/-! ## and, or, not -/
theorem pq_val (h : PD X G D e (.bool p)) (he : ∀ whole, isTrue e X.env whole = (do let v ← whole; standAt e.pos; holding [v] (truthy v)) := by intro _; rfl) : PQ X G D e p :=
  PT.by_ (pt_val h he) fun t H Q ⟨E, r⟩ => ⟨E, fun v H1 e1 f => ⟨p, f, r H1 e1⟩⟩
theorem pq_not (h : PQ X G D e p) : PQ X G D (.UnaryOp .Not e pos) (!p) := PT.by_ (pt_not h) fun t H Q ⟨E, r⟩ => ⟨E, fun H1 e1 => r H1 e1⟩
abbrev PWq (X : Cx) (G : List Slot) (D : Lists) (e : Expr) (b : Bool) : Prop := PW X e (tQ X.K G D b)
theorem wq_or1 (h : PQ X G D a p) : PWq X G D (.BoolOp .Or [a] pos) p := pw_or1 h
theorem wq_and1 (h : PQ X G D a p) : PWq X G D (.BoolOp .And [a] pos) p := pw_and1 h
theorem wq_or {rest : List Expr} (h : PQ X G D a p) (hr : p = false → PWq X G D (.BoolOp .Or (b :: rest) pos) q) : PWq X G D (.BoolOp .Or (a :: b :: rest) pos) (p || q) := by
  cases p with
  | true => exact PW.by_ (pw_or h PW.dead) fun t H Q ⟨E, r⟩ => ⟨E, fun H1 e1 => iteT (r H1 e1)⟩
  | false => exact PW.by_ (pw_or h (hr rfl)) fun t H Q ⟨E, r⟩ => ⟨E, fun H1 e1 => iteF ⟨E.mono e1, fun H2 e2 => r H2 (e1.trans e2)⟩⟩
theorem wq_and {rest : List Expr} (h : PQ X G D a p) (hr : p = true → PWq X G D (.BoolOp .And (b :: rest) pos) q) : PWq X G D (.BoolOp .And (a :: b :: rest) pos) (p && q) := by
  cases p with
  | false => exact PW.by_ (pw_and h PW.dead) fun t H Q ⟨E, r⟩ => ⟨E, fun H1 e1 => iteF (r H1 e1)⟩
  | true => exact PW.by_ (pw_and h (hr rfl)) fun t H Q ⟨E, r⟩ => ⟨E, fun H1 e1 => iteT ⟨E.mono e1, fun H2 e2 => r H2 (e1.trans e2)⟩⟩
theorem wq_q (h : PWq X G D e p) : PQ X G D e p := PW.pt h
theorem pd_one {op} (h : PD X G D a d) : PD X G D (.BoolOp op [a] pos) d := pe_one h
theorem pd_and {rest : List Expr} (h : PD X G D a (.bool p)) (hr : p = true → PD X G D (.BoolOp .And (b :: rest) pos) (.bool q)) : PD X G D (.BoolOp .And (a :: b :: rest) pos) (.bool (p && q)) := by
  cases p with
  | false => exact PE.by_ (pe_and h PE.dead) fun t H Q ⟨E, r⟩ => ⟨E, fun v H1 e1 f => ⟨false, f, iteF (r _ H1 e1 rfl)⟩⟩
  | true => exact PE.by_ (pe_and h (hr rfl)) fun t H Q ⟨E, r⟩ => ⟨E, fun v H1 e1 f => ⟨true, f, iteT ⟨E.mono e1, fun u H2 e2 f2 => r _ H2 (e1.trans e2) f2⟩⟩⟩
theorem pd_or {rest : List Expr} (h : PD X G D a (.bool p)) (hr : p = false → PD X G D (.BoolOp .Or (b :: rest) pos) (.bool q)) : PD X G D (.BoolOp .Or (a :: b :: rest) pos) (.bool (p || q)) := by
  cases p with
  | true => exact PE.by_ (pe_or h PE.dead) fun t H Q ⟨E, r⟩ => ⟨E, fun v H1 e1 f => ⟨true, f, iteT (r _ H1 e1 rfl)⟩⟩
  | false => exact PE.by_ (pe_or h (hr rfl)) fun t H Q ⟨E, r⟩ => ⟨E, fun v H1 e1 f => ⟨false, f, iteF ⟨E.mono e1, fun u H2 e2 f2 => r _ H2 (e1.trans e2) f2⟩⟩⟩
theorem pd_not (h : PD X G D a (.bool p)) : PD X G D (.UnaryOp .Not a pos) (.bool (!p)) := PE.by_ (pe_not h) fun t H Q ⟨E, r⟩ => ⟨E, fun v H1 e1 f => ⟨p, f, r _ H1 e1 rfl⟩⟩
theorem pd_ifExp (h : PQ X G D c p) (h1 : p = true → PD X G D a d) (h2 : p = false → PD X G D b d) : PD X G D (.IfExp c a b pos) d := by
  cases p with
  | true => exact PE.by_ (pe_ifExp h (h1 rfl) PE.dead) fun t H Q ⟨E, r⟩ => ⟨E, fun H1 e1 => iteT ⟨E.mono e1, fun v H2 e2 f => r v H2 (e1.trans e2) f⟩⟩
  | false => exact PE.by_ (pe_ifExp h PE.dead (h2 rfl)) fun t H Q ⟨E, r⟩ => ⟨E, fun H1 e1 => iteF ⟨E.mono e1, fun v H2 e2 f => r v H2 (e1.trans e2) f⟩⟩

/-! ## built-in calls -/
theorem pd_lenT (ha : PD X G D a (.tuple ds)) (hm : X.mg "len" = none) {pn : Pos} (hg : Gl X "len" := by rfl) (hs : starEach [a] X.env = (false, eval a X.env) :: starEach [] X.env := by rfl) : PD X G D (.Call (.Name "len" pn) [a] [] pos) (.int ds.length) :=
  PE.by_ (pe_callB call_len_seq hg hm PySem.boot_len (pa_cons ha pa_nil hs) (by decide) (by decide) hs (by rfl)) fun t H Q ⟨E, r⟩ => ⟨E, fun v H1 e1 f => by
    obtain ⟨z, xs, rfl, s, g⟩ := f
    refine ⟨z, xs, rfl, .inr s, ?_⟩
    rw [g.len]
    exact r _ H1 e1 rfl⟩
theorem pd_lenL (ha : PR X G D a ds) (hm : X.mg "len" = none) {pn : Pos} (hg : Gl X "len" := by rfl) (hs : starEach [a] X.env = (false, eval a X.env) :: starEach [] X.env := by rfl) : PD X G D (.Call (.Name "len" pn) [a] [] pos) (.int ds.length) :=
  PE.by_ (pe_callB call_len_seq hg hm PySem.boot_len (pa_cons ha pa_nil hs) (by decide) (by decide) hs (by rfl)) fun t H Q ⟨E, r⟩ => ⟨E, fun z xs H1 e1 s g => by
    refine ⟨z, xs, rfl, .inl (SqL.of s), ?_⟩
    rw [g.len]
    exact r _ H1 e1 rfl⟩
theorem pd_abs {i : Int} (ha : PD X G D a (.int i)) (hm : X.mg "abs" = none) {pn : Pos} (hg : Gl X "abs" := by rfl) (hs : starEach [a] X.env = (false, eval a X.env) :: starEach [] X.env := by rfl) : PD X G D (.Call (.Name "abs" pn) [a] [] pos) (.int i.natAbs) :=
  PE.by_ (pe_callB call_abs hg hm (by decide +kernel) (pa_cons ha pa_nil hs) (by decide) (by decide) hs (by rfl)) fun t H Q ⟨E, r⟩ => ⟨E, fun v H1 e1 f => by
    have ev : v = .int i := f
    subst ev
    refine ⟨i, rfl, ?_⟩
    have e : (if i < 0 then -i else i) = (i.natAbs : Int) := by split <;> omega
    rw [e]
    exact r _ H1 e1 rfl⟩
theorem pd_tupL (ha : PR X G D a ds) (hm : X.mg "tuple" = none) {pn : Pos} (hg : Gl X "tuple" := by rfl) (hs : starEach [a] X.env = (false, eval a X.env) :: starEach [] X.env := by rfl) : PD X G D (.Call (.Name "tuple" pn) [a] [] pos) (.tuple ds) :=
  PE.by_ (pe_callTy call_tuple_of hg hm (by decide +kernel) (pa_cons ha pa_nil hs) (by decide) (by decide) hs (by rfl)) fun t H Q ⟨E, r⟩ => ⟨E, fun z xs H1 e1 s g =>
    ⟨z, xs, rfl, .inl ⟨SqL.of s, fun l hl => r _ _ (e1.trans (Ex.new hl)) (ft_tup hl g)⟩⟩⟩
theorem pd_all {bs : List Bool} (hc : X.calm = true) (ha : PR X G D a (bs.map .bool)) (hm : X.mg "all" = none) {pn : Pos} (hg : Gl X "all" := by rfl) (hs : starEach [a] X.env = (false, eval a X.env) :: starEach [] X.env := by rfl) : PD X G D (.Call (.Name "all" pn) [a] [] pos) (.bool (bs.all id)) :=
  PE.by_ (pe_callB (cr_all hc) hg hm (by decide +kernel) (pa_cons ha pa_nil hs) (by decide) (by decide) hs (by rfl)) fun t H Q ⟨E, r⟩ => ⟨E, fun z xs H1 e1 s g => by
    have ex := g.bools
    subst ex
    exact ⟨z, bs, rfl, SqL.of s, r _ H1 e1 rfl⟩⟩
/-- sorted whole numbers: some rising arrangement -/
theorem pl_sorted {ns : List Int} (ms : List Int) (hms : ∀ l : List Int, l.Perm ns → l.Pairwise (· ≤ ·) → l = ms) (ha : PR X G D a (ns.map .int)) (h64 : ns.length < 64) (hm : X.mg "sorted" = none) {pn : Pos} (hg : Gl X "sorted" := by rfl) (hs : starEach [a] X.env = (false, eval a X.env) :: starEach [] X.env := by rfl) :
    PL X G D (.Call (.Name "sorted" pn) [a] [] pos) (ms.map .int) :=
  PE.by_ (pe_callB cr_sorted hg hm (by decide +kernel) (pa_cons ha pa_nil hs) (by decide) (by decide) hs (by rfl)) fun t H Q ⟨E, r⟩ => ⟨E, fun z xs H1 e1 s g => by
    have ex := g.ints
    subst ex
    refine ⟨z, ns, rfl, SqL.of s, h64, fun l p hp hw hn => ?_⟩
    have el := hms l hp hw
    subst el
    exact r p _ _ (fresh_back e1 hn) (e1.trans (Ex.new hn)) upd_same (Fts.of_ints l)⟩
/-- list + list -/
theorem pl_cat {es' : List PyData} (ha : PR X G D a ds) (hb : PR X G D b es') (hl : ds.length + es'.length ≤ 1000) : PL X G D (.BinOp a .Add b pos) (ds ++ es') :=
  PE.by_ (pe_op op_cat ha hb) fun t H Q ⟨E, r⟩ => ⟨E, fun z xs H1 e1 s g => ⟨E.mono e1, fun z2 ys H2 e2 s2 g2 =>
    ⟨z, z2, xs, ys, rfl, rfl, e2 _ _ s, s2, sz_of (by rw [g.len, g2.len]; omega), fun p hp => r p _ _ (fresh_back (e1.trans e2) hp) ((e1.trans e2).trans (Ex.new hp)) upd_same (((g.mono (Ex.tp e2)).app g2).mono (Ex.tp (Ex.new hp)))⟩⟩⟩
/-- isinstance of a datum and a built-in class -/
def isTy : PyData → String → Bool
  | .none, _ => false
  | .bool _, T => T == "bool" || T == "int"
  | .int _, T => T == "int"
  | .str _, T => T == "str"
  | .tuple _, T => T == "tuple"
  | _, _ => false
def tyN : PyData → String
  | .none => "NoneType"
  | .bool _ => "bool"
  | .int _ => "int"
  | .str _ => "str"
  | .tuple _ => "tuple"
  | _ => ""
theorem ft_ty {K : PySem.W.Frag} {H : Hp} {v : V} : ∀ {d : PyData}, Ft K H d v → TyX K H v (.type (tyN d))
  | .none, h => by
    have e : v = .non := h
    subst e
    exact .base .non
  | .bool _, h => by
    have e : v = .bl _ := h
    subst e
    exact .base (.bl _)
  | .int _, h => by
    have e : v = .int _ := h
    subst e
    exact .base (.int _)
  | .str _, h => by
    have e : v = .str _ := h
    subst e
    exact .base (.str _)
  | .tuple _, ⟨p, xs, e, s, _⟩ => by
    subst e
    rcases s with (s | ⟨o, s⟩) | ⟨o, its, n, k, c, _⟩
    · exact .base (.tup s)
    · exact .fTuple s
    · exact .kTuple k c
  | .list _, h => h.elim
  | .dict _, h => h.elim
theorem pd_isi {T : String} {pn p2 : Pos} {k : Bool} {nm : Str} (ha : PD X G D a d) (hm : X.mg "isinstance" = none) (hT : X.mg nm = none) (hv : bootBuiltins nm = some (.type T)) (hk : kitB (tyN d) T = some k) (hg : Gl X "isinstance" := by rfl) (hgT : Gl X nm := by rfl)
    (hs : starEach [a, .Name nm p2] X.env = (false, eval a X.env) :: starEach [.Name nm p2] X.env := by rfl) (hn : nm ≠ "__name__" := by decide) (hdb : (nm == ("__debug__" : Str)) = false := by decide) : PD X G D (.Call (.Name "isinstance" pn) [a, .Name nm p2] [] pos) (.bool k) :=
  PE.by_ (pe_callB call_isi hg hm (by decide +kernel) (pa_cons ha (pa_cons (pe_bltn (v := .ty T) hgT hT hv rfl hn hdb) pa_nil (by rfl)) hs) (by decide) (by decide) hs (by rfl)) fun t H Q ⟨E, r⟩ => ⟨E, fun v H1 e1 f =>
    ⟨v, .ty T, _, _, k, rfl, ClsV.ty T, ft_ty f, kit_ty hk, r _ H1 e1 rfl⟩⟩
end
end Gk
end

section
set_option linter.all false
set_option maxRecDepth 100000
namespace Gk
open PySem PySem.Spec PyProof.Rows L2 Evl

/-! ## what a def tells: a datum, a new list, a pair of a new list and a datum -/
inductive Res where
  | dat (d : PyData) | lst (ds : List PyData) | two (ds : List PyData) (d : PyData)
def ResOk (K : PySem.W.Frag) (H0 H : Hp) : Res → V → Prop
  | .dat d, v => Ft K H d v
  | .lst ds, v => ∃ a vs, v = .ref a ∧ H0 a = none ∧ H a = some (.lst vs) ∧ Fts K H ds vs
  | .two ds d, v => ∃ p a vs x, v = .ref p ∧ SqT K H p [.ref a, x] ∧ H0 a = none ∧ H a = some (.lst vs) ∧ Fts K H ds vs ∧ Ft K H d x
def spD (K : PySem.W.Frag) (R : List PyData → Res → Prop) : Sp := fun vs H Q _ => ∃ ds r, Fts K H ds vs ∧ R ds r ∧ ∀ v H', Ex H H' → ResOk K H H' r v → Q v H'
/-- a def of the module, by its name -/
structure Fn (P : Program) (w : World) (K : PySem.W.Frag) (mg : Str → Option Value) (base : Heap) (k : Nat) (x : Str) (ps : List Str) (dvs : List V) (sp : Sp) : Prop where
  ex : ∃ f fd ds, mg x = some (.ref f) ∧ PySem.W.keepIn K (.ref f) = true ∧ FnOk P w K mg base CX0 k f fd ps sp ∧ Binds K fd ps ds ∧ Vals dvs ds
section
variable {X : Cx} {e : Expr} {es : List Expr} {G : List Slot} {D : Lists} {d : PyData} {ds dds : List PyData} {pos p : Pos} {k n : Nat} {x : Str} {ps : List Str} {dvs : List V} {R : List PyData → Res → Prop}
theorem pe_fn {sp : Sp} {t : TA} (F : Fn X.prog X.w X.K X.mg X.base k x ps dvs sp) (hr : Room n X.A) (hk : k ≤ n) (ha : PA X (e :: es) t) (hg : Gl X x) (hdb : (x == ("__debug__" : Str)) = false) (he : starEach (e :: es) X.env = (false, eval e X.env) :: starEach es X.env)
    (hpl : (backTo pos (starEach es X.env)).any (·.1) = false) : PE X (.Call (.Name x p) (e :: es) [] pos) (tCall sp dvs E0 t) := by
  obtain ⟨f, fd, us, hm, hkp, hF, hB, hV⟩ := F.ex
  exact pe_call hF (hr.mono hk) hg hm hkp hB hV pass0 ha hdb he hpl
theorem pd_call (F : Fn X.prog X.w X.K X.mg X.base k x ps [] (spD X.K R)) (hr : Room n X.A) (hk : k ≤ n) (ha : PDs X G D (e :: es) ds) (h : R ds (.dat d)) (hg : Gl X x := by rfl) (hdb : (x == ("__debug__" : Str)) = false := by decide)
    (he : starEach (e :: es) X.env = (false, eval e X.env) :: starEach es X.env := by rfl) (hpl : (backTo pos (starEach es X.env)).any (·.1) = false := by rfl) : PD X G D (.Call (.Name x p) (e :: es) [] pos) d :=
  PE.by_ (pe_fn F hr hk ha hg hdb he hpl) fun t H Q ⟨E, q⟩ => ⟨E, fun vs H1 e1 f => by
    show spD X.K R (vs ++ []) H1 Q E0
    rw [List.append_nil]
    exact ⟨ds, _, f, h, fun v H2 e2 r => q v H2 (e1.trans e2) r⟩⟩
theorem pl_call {rs : List PyData} (F : Fn X.prog X.w X.K X.mg X.base k x ps [] (spD X.K R)) (hr : Room n X.A) (hk : k ≤ n) (ha : PDs X G D (e :: es) ds) (h : R ds (.lst rs)) (hg : Gl X x := by rfl) (hdb : (x == ("__debug__" : Str)) = false := by decide)
    (he : starEach (e :: es) X.env = (false, eval e X.env) :: starEach es X.env := by rfl) (hpl : (backTo pos (starEach es X.env)).any (·.1) = false := by rfl) : PL X G D (.Call (.Name x p) (e :: es) [] pos) rs :=
  PE.by_ (pe_fn F hr hk ha hg hdb he hpl) fun t H Q ⟨E, q⟩ => ⟨E, fun vs H1 e1 f => by
    show spD X.K R (vs ++ []) H1 Q E0
    rw [List.append_nil]
    refine ⟨ds, _, f, h, fun v H2 e2 r => ?_⟩
    obtain ⟨a, us, rfl, h0, h1, h2⟩ := r
    exact q a us H2 (fresh_back e1 h0) (e1.trans e2) h1 h2⟩
end

/-! ## statements -/
/-- H0: the entry; M: lists of our own, new since; N: what holds behind; R: what is told -/
abbrev NP := List Addr → List Slot → Lists → Prop
def tS (K : PySem.W.Frag) (H0 : Hp) (M : List Addr) (G : List Slot) (D : Lists) (N : NP) (R : Res → Prop) : TS := fun En t H =>
  Ex H0 H ∧ (∀ a ∈ M, H0 a = none) ∧ EnvE K G D t H ∧
    (∀ M' G' D' t' H', Ex H0 H' → TP K H H' → (∀ a ∈ M', H0 a = none) → EnvE K G' D' t' H' → N M' G' D' → En.nx t' H') ∧ (∀ v H' r, Ex H0 H' → ResOk K H0 H' r v → R r → En.rt v H')
abbrev SD (X : Cx) (M : List Addr) (G : List Slot) (D : Lists) (st : Stmt) (N : NP) (R : Res → Prop) : Prop := ∀ H0, PS X st (tS X.K H0 M G D N R)
abbrev SDs (X : Cx) (M : List Addr) (G : List Slot) (D : Lists) (st : List Stmt) (N : NP) (R : Res → Prop) : Prop := ∀ H0, PSs X st (tS X.K H0 M G D N R)
theorem TP.refl (K : PySem.W.Frag) (H : Hp) : TP K H H := ⟨fun _ _ h => h, fun _ _ _ _ h => h⟩
theorem TP.trans {K : PySem.W.Frag} {H H1 H2 : Hp} (a : TP K H H1) (b : TP K H1 H2) : TP K H H2 := ⟨fun p xs h => b.1 p xs (a.1 p xs h), fun p C dx fs h => b.2 p C dx fs (a.2 p C dx fs h)⟩
section
variable {X : Cx} {e : Expr} {es : List Expr} {G G' : List Slot} {D : Lists} {M : List Addr} {d d1 d2 : PyData} {ds : List PyData} {pos p : Pos} {N : NP} {R : Res → Prop} {st : Stmt} {rest : List Stmt} {b : Bool}
theorem sds_nil (h : N M G D) : SDs X M G D [] N R := fun H0 => PSs.by_ pss_nil fun En t H ⟨x0, fr, E, q, _⟩ => q M G D t H x0 (TP.refl _ _) fr E h
theorem sds_cons (h : SD X M G D st (fun M' G' D' => SDs X M' G' D' rest N R) R) : SDs X M G D (st :: rest) N R := fun H0 => by
  have hu : PSs X rest (fun En t H => ∃ M' G' D', SDs X M' G' D' rest N R ∧ tS X.K H0 M' G' D' N R En t H) := ⟨fun p s c H En I ⟨M', G', D', z, q⟩ => (z H0).run p s c H En I q⟩
  refine PSs.by_ (pss_cons (h H0) hu) fun En t H ⟨x0, fr, E, q, r⟩ => ?_
  exact ⟨x0, fr, E, fun M' G' D' t' H' e1 tp fr' E' z => ⟨M', G', D', z, e1, fr', E', fun M2 G2 D2 t2 H2 e2 tp2 => q M2 G2 D2 t2 H2 e2 (tp.trans tp2), r⟩, r⟩
theorem sds_one (h : SD X M G D st N R) : SDs X M G D [st] N R := fun H0 => PSs.by_ (pss_one (h H0)) fun _ _ _ q => q
theorem SD.imp {N' : NP} (h : SD X M G D st N R) (i : ∀ M' G' D', N M' G' D' → N' M' G' D') : SD X M G D st N' R := fun H0 => PS.by_ (h H0) fun En t H ⟨x0, fr, E, q, r⟩ => ⟨x0, fr, E, fun M' G' D' t' H' e1 tp fr' E' z => q M' G' D' t' H' e1 tp fr' E' (i _ _ _ z), r⟩
theorem sd_ret (h : PD X G D e d) (hR : R (.dat d)) : SD X M G D (.Return (some e) pos) N R := fun H0 => PS.by_ (ps_ret h) fun En t H ⟨x0, fr, E, _, r⟩ => ⟨E, fun v H1 e1 f => r v H1 (.dat d) (x0.trans e1) f hR⟩
theorem sd_retL (h : PL X G D e ds) (hR : R (.lst ds)) : SD X M G D (.Return (some e) pos) N R := fun H0 => PS.by_ (ps_ret h) fun En t H ⟨x0, fr, E, _, r⟩ =>
  ⟨E, fun a vs H1 n e1 s f => r (.ref a) H1 (.lst ds) (x0.trans e1) ⟨a, vs, rfl, fresh_back x0 n, s, f⟩ hR⟩
/-- an own list is told -/
theorem sd_retV (i : Nat) {x : Str} {a : Addr} (hR : R (.lst ds)) (h : G[i]? = some (.ref a) := by rfl) (hp : (a, ds) ∈ D := by simp) (ha : a ∈ M := by simp) (hN : X.N[i]? = some x := by rfl) (hv : Vis X.env.scope x := by first | exact Or.inl rfl | exact Or.inr (Or.inl rfl) | exact Or.inr (Or.inr rfl))
    (hd : (x == ("__debug__" : Str)) = false := by decide) (hcd : (x == ("__classdict__" : Str)) = false := by decide) : SD X M G D (.Return (some (.Name x p)) pos) N R := fun H0 => PS.by_ (ps_ret (pe_var hN hv hd hcd)) fun En t H ⟨x0, fr, E, _, r⟩ => by
  obtain ⟨vs, h1, h2⟩ := E.lists _ hp
  exact ⟨_, E.rf h, r _ H (.lst ds) x0 ⟨a, vs, rfl, fr a ha, h1, h2⟩ hR⟩
theorem sd_asg (i : Nat) {x : Str} {p' : Pos} (hnd : X.N.Nodup) (h : PD X G D e d) (hN : N M (G.set i (.dat d)) D) (hi : X.N[i]? = some x := by rfl) (hx : Loc X.env.scope x := by first | exact Or.inl rfl | exact Or.inr rfl)
    (hs : swapsWith e (some (.Name x p')) pos.line X.env = pure false := by rfl) (hf : X.fn x = true ∨ X.env.scope.names.lookup x = some .local := by first | exact .inl rfl | exact .inr rfl) : SD X M G D (.Assign [.Name x p'] e pos) N R := fun H0 =>
  PS.by_ (ps_set hnd hi hx h hs hf) fun En t H ⟨x0, fr, E, q, _⟩ => ⟨E, fun v H1 e1 f => q M _ D _ H1 (x0.trans e1) (Ex.tp e1) fr ((E.mono e1).put f) hN⟩
theorem EnvE.free {K : PySem.W.Frag} {t : L2.St} {H : Hp} {a : Addr} (E : EnvE K G D t H) (h : H a = none) : ∀ p ∈ D, p.1 ≠ a := fun p hp z => by
  obtain ⟨vs, h1, _⟩ := E.lists p hp
  rw [z, h] at h1
  cases h1
/-- a new list goes into a slot -/
theorem sd_asgL (i : Nat) {x : Str} {p' : Pos} (hnd : X.N.Nodup) (h : PL X G D e ds) (hN : ∀ a, N (a :: M) (G.set i (.ref a)) ((a, ds) :: D)) (hi : X.N[i]? = some x := by rfl) (hx : Loc X.env.scope x := by first | exact Or.inl rfl | exact Or.inr rfl)
    (hs : swapsWith e (some (.Name x p')) pos.line X.env = pure false := by rfl) (hf : X.fn x = true ∨ X.env.scope.names.lookup x = some .local := by first | exact .inl rfl | exact .inr rfl) : SD X M G D (.Assign [.Name x p'] e pos) N R := fun H0 =>
  PS.by_ (ps_set hnd hi hx h hs hf) fun En t H ⟨x0, fr, E, q, _⟩ => ⟨E, fun a vs H1 n e1 s f => q (a :: M) _ _ _ H1 (x0.trans e1) (Ex.tp e1)
    (fun b hb => by
      rcases List.mem_cons.mp hb with rfl | hb
      · exact fresh_back x0 n
      · exact fr b hb) (((E.mono e1).more (E.free n) s f).putR) (hN a)⟩
theorem sd_expr (h : PD X G D e d) (hN : N M G D) (hs : swapsWith e none pos.line X.env = pure false := by rfl) : SD X M G D (.Expr e pos) N R := fun H0 =>
  PS.by_ (ps_expr h hs) fun En t H ⟨x0, fr, E, q, _⟩ => ⟨E, fun v H1 e1 f => q M G D t H1 (x0.trans e1) (Ex.tp e1) fr (E.mono e1) hN⟩
theorem sd_if {c : Expr} {s1 s2 : List Stmt} (hc : PQ X G D c b) (h1 : b = true → SDs X M G D s1 N R) (h2 : b = false → SDs X M G D s2 N R) : SD X M G D (.If c s1 s2 pos) N R := fun H0 => by
  cases b with
  | true =>
    exact PS.by_ (ps_if hc (h1 rfl H0) pss_never) fun En t H ⟨x0, fr, E, q, r⟩ => ⟨E, fun H1 e1 => iteT ⟨x0.trans e1, fr, E.mono e1, fun M' G' D' t' H' e2 tp => q M' G' D' t' H' e2 ((Ex.tp e1).trans tp), r⟩⟩
  | false =>
    exact PS.by_ (ps_if hc pss_never (h2 rfl H0)) fun En t H ⟨x0, fr, E, q, r⟩ => ⟨E, fun H1 e1 => iteF ⟨x0.trans e1, fr, E.mono e1, fun M' G' D' t' H' e2 tp => q M' G' D' t' H' e2 ((Ex.tp e1).trans tp), r⟩⟩
/-- a, b = e1, e2: two locals -/
theorem sd_par (i j : Nat) {x y : Str} {a b : Expr} {px py pt : Pos} {kt k2 pt2} (hnd : X.N.Nodup) (ha : PD X G D a d1) (hb : PD X G D b d2) (hN : N M ((G.set i (.dat d1)).set j (.dat d2)) D) (hc : X.calm = true := by rfl) (hi : X.N[i]? = some x := by rfl) (hj : X.N[j]? = some y := by rfl) (hij : i ≠ j := by decide)
    (hx : X.env.scope.names.lookup x = some .local := by rfl) (hy : X.env.scope.names.lookup y = some .local := by rfl)
    (hw : swappedStores [.Tuple [.Name x px, .Name y py] kt pt] (.Tuple [a, b] k2 pt2) X.env = pure (some [x, y]) := by rfl)
    (hs : swapsWithSole [.Tuple [.Name x px, .Name y py] kt pt] (.Tuple [a, b] k2 pt2) pos.line X.env = pure false := by rfl)
    (hs1 : starEach [a, b] X.env = (false, eval a X.env) :: starEach [b] X.env := by rfl) (hs2 : starEach [b] X.env = (false, eval b X.env) :: starEach [] X.env := by rfl) : SD X M G D (.Assign [.Tuple [.Name x px, .Name y py] kt pt] (.Tuple [a, b] k2 pt2) pos) N R := fun H0 =>
  PS.by_ (ps_par hc hnd hi hj hij hx hy (pa_cons ha (pa_cons hb pa_nil hs2) hs1) hw hs) fun En t H ⟨x0, fr, E, q, _⟩ => ⟨E, fun v H1 e1 f1 => ⟨E.mono e1, fun u H2 e2 f2 => ⟨v, u, rfl,
    q M _ D _ H2 (x0.trans (e1.trans e2)) (Ex.tp (e1.trans e2)) fr (((E.mono (e1.trans e2)).put (f1.mono (Ex.tp e2))).put f2) hN⟩⟩⟩
/-! ### targets -/
def tG (K : PySem.W.Frag) (is : List Nat) (G : List Slot) (d : PyData) (G' : List Slot) : TG := fun x t H k => SlotsOk K H G t ∧ Ft K H d x ∧ ∀ t', SlotsOk K H G' t' → (∀ vs, (∀ i ∈ is, i ∈ vs) → wipe t' vs = wipe t vs) → k t' H
def tGs (K : PySem.W.Frag) (is : List Nat) (G : List Slot) (ds : List PyData) (G' : List Slot) : TGs := fun xs t H k => SlotsOk K H G t ∧ Fts K H ds xs ∧ ∀ t', SlotsOk K H G' t' → (∀ vs, (∀ i ∈ is, i ∈ vs) → wipe t' vs = wipe t vs) → k t' H
abbrev PGd (X : Cx) (is : List Nat) (G : List Slot) (tg : Expr) (d : PyData) (G' : List Slot) : Prop := PG X tg (tG X.K is G d G')
abbrev PGds (X : Cx) (is : List Nat) (G : List Slot) (tgs : List Expr) (ds : List PyData) (G' : List Slot) : Prop := PGs X tgs (tGs X.K is G ds G')
theorem PG.by_ {tg : Expr} {g g' : TG} (h : PG X tg g) (i : ∀ x t H k, g' x t H k → g x t H k) : PG X tg g' := ⟨fun p s t H v u Q I r q => h.run p s t H v u Q I r (i _ _ _ _ q)⟩
theorem PGs.by_ {tg : List Expr} {g g' : TGs} (h : PGs X tg g) (i : ∀ x t H k, g' x t H k → g x t H k) : PGs X tg g' := ⟨fun p s t H v u Q I r q => h.run p s t H v u Q I r (i _ _ _ _ q)⟩
theorem wipe_at {t : L2.St} {i : Nat} {x : Option V} : ∀ {vs : List Nat}, i ∈ vs → wipe (t.set i x) vs = wipe t vs
  | [], h => by cases h
  | v :: vs, h => by
    show (wipe (t.set i x) vs).set v none = (wipe t vs).set v none
    by_cases hm : i ∈ vs
    · rw [wipe_at hm]
    · have e : i = v := by
        rcases List.mem_cons.mp h with e | e
        · exact e
        · exact absurd e hm
      subst e
      have key : ∀ (ws : List Nat), i ∉ ws → wipe (t.set i x) ws = (wipe t ws).set i x := by
        intro ws
        induction ws with
        | nil => intro _; rfl
        | cons w ws ih =>
          intro hw
          show (wipe (t.set i x) ws).set w none = ((wipe t ws).set w none).set i x
          rw [ih (fun z => hw (List.mem_cons_of_mem _ z)), List.set_comm _ _ (fun z => hw (by rw [z]; exact List.mem_cons_self ..))]
      rw [key vs hm, List.set_set]
theorem gd_name (i : Nat) {x : Str} (hnd : X.N.Nodup) (hi : X.N[i]? = some x := by rfl) (hx : Loc X.env.scope x := by first | exact Or.inl rfl | exact Or.inr rfl) (hf : X.fn x = true ∨ X.env.scope.names.lookup x = some .local := by first | exact .inl rfl | exact .inr rfl) :
    PGd X [i] G (.Name x pos) d (G.set i (.dat d)) := PG.by_ (pg_name hnd hi hx hf) fun v t H k ⟨S, f, q⟩ => q _ (S.set i ⟨v, rfl, f⟩) fun vs h => wipe_at (h i (List.mem_cons_self ..))
theorem gds_nil : PGds X [] G [] [] G := PGs.by_ pgs_nil fun v t H k ⟨S, f, q⟩ => ⟨f, q t S fun _ _ => rfl⟩
theorem gds_cons {is js : List Nat} {G1 : List Slot} {e : Expr} (h : PGd X is G e d G1) (hr : PGds X js G1 es ds G') (hs : (assignEach (e :: es) X.env).map (·.2) = assign e X.env :: (assignEach es X.env).map (·.2) := by rfl) : PGds X (is ++ js) G (e :: es) (d :: ds) G' :=
  PGs.by_ (pgs_cons h hr hs) fun v t H k ⟨S, f, q⟩ => by
    obtain ⟨x, xs, rfl, f1, f2⟩ := f
    exact ⟨x, xs, rfl, S, f1, fun t1 S1 w1 => ⟨S1, f2, fun t2 S2 w2 => q t2 S2 fun vs h => (w2 vs fun i hi => h i (List.mem_append_right _ hi)).trans (w1 vs fun i hi => h i (List.mem_append_left _ hi))⟩⟩
theorem gd_tup {is : List Nat} {k : Nat} (h : PGds X is G es ds G') (hc : X.calm = true := by rfl) (hn : (assignEach es X.env).length = ds.length := by rfl) (hst : (assignEach es X.env).findIdx? (·.1) = none := by rfl) : PGd X is G (.Tuple es k pos) (.tuple ds) G' :=
  PG.by_ (pg_tup hc h hn hst) fun v t H k ⟨S, f, q⟩ => by
    obtain ⟨a, xs, rfl, s, g⟩ := f
    exact ⟨a, xs, rfl, s, g.len, S, g, q⟩
/-- a, b, .. = a tuple -/
theorem sd_asgT {is : List Nat} {tg : Expr} (h : PD X G D e d) (hg : PGd X is G tg d G') (hN : N M G' D) (hs : swapsWithSole [tg] e pos.line X.env = pure false := by rfl) (hw : swappedStores [tg] e X.env = pure none := by rfl)
    (h1 : (assignEach [tg] X.env).map (·.2) = [assign tg X.env] := by rfl) : SD X M G D (.Assign [tg] e pos) N R := fun H0 =>
  PS.by_ (ps_asg h hg hs hw h1) fun En t H ⟨x0, fr, E, q, _⟩ => ⟨E, fun v H1 e1 f => ⟨(E.mono e1).slots, f, fun t' S _ => q M G' D t' H1 (x0.trans e1) (Ex.tp e1) fr ⟨S, E.nd, (E.mono e1).lists⟩ hN⟩⟩
/-! ### own lists changed -/
theorem sd_app (i : Nat) {x : Str} {a : Addr} {D1 D2 : Lists} {p1 p2 pn : Pos} (h : PD X G (D1 ++ (a, ds) :: D2) e d) (hz : ds.length ≤ 1000) (hN : N M G (D1 ++ (a, ds ++ [d]) :: D2)) (hg : G[i]? = some (.ref a) := by rfl) (ha : a ∈ M := by simp) (hi : X.N[i]? = some x := by rfl)
    (hv : Vis X.env.scope x := by first | exact Or.inl rfl | exact Or.inr (Or.inl rfl) | exact Or.inr (Or.inr rfl)) (hd : (x == ("__debug__" : Str)) = false := by decide) (hcd : (x == ("__classdict__" : Str)) = false := by decide)
    (hs1 : starEach [e] X.env = (false, eval e X.env) :: starEach [] X.env := by rfl) (hb : attributeBase (.Name x pn) "append" X.env (eval (.Name x pn) X.env) = eval (.Name x pn) X.env := by rfl)
    (hf : ((backTo p2 (starEach [e] X.env)).all (fun x => !x.1) && (backToKw p2 (keywordEach [] X.env)).all (fun x => x.1.isSome) && decide ([e].length + ([] : List Keyword).length + (if ([] : List Keyword).isEmpty then 0 else 1) < 30)) = true := by rfl)
    (hl : (p1.endLine == p2.line) = true := by rfl) (hs : swapsWith (.Call (.Attribute (.Name x pn) "append" p1) [e] [] p2) none pos.line X.env = pure false := by rfl) :
    SD X M G (D1 ++ (a, ds) :: D2) (.Expr (.Call (.Attribute (.Name x pn) "append" p1) [e] [] p2) pos) N R := fun H0 =>
  PS.by_ (ps_expr (pe_bm PySem.F.plainAttrs_list PySem.F.slot_list_append PySem.F.type_list_append mt_append (pe_var hi hv hd hcd) (pa_cons h pa_nil hs1) hb hf hl hs1 (by rfl)) hs) fun En t H ⟨x0, fr, E, q, _⟩ => by
    obtain ⟨vs, h1, _⟩ := E.lists (a, ds) (List.mem_append_right _ (List.mem_cons_self ..))
    refine ⟨_, E.rf hg, .inl ⟨rfl, _, SqL.of h1⟩, E, fun v H1 e1 f => ?_⟩
    have E1 := E.mono e1
    obtain ⟨us, h3, h4⟩ := E1.lists (a, ds) (List.mem_append_right _ (List.mem_cons_self ..))
    refine ⟨a, us, v, rfl, rfl, h3, sz_lt (by have hl : us.length = ds.length := h4.len; omega), ?_⟩
    exact q M G _ t _ (Ex.mut (x0.trans e1) (fr a ha)) ((Ex.tp e1).trans (TP.upd h3)) fr (E1.upd (h4.app (Fts.one f))) hN
theorem sd_setL {ix : Expr} (i : Nat) {x : Str} {a : Addr} {D1 D2 : Lists} {p1 pn : Pos} {n : Int} {j : Nat} (h : PD X G (D1 ++ (a, ds) :: D2) e d) (hix : PD X G (D1 ++ (a, ds) :: D2) ix (.int n)) (hj : ixN ds.length n = some j) (hN : N M G (D1 ++ (a, ds.set j d) :: D2)) (hg : G[i]? = some (.ref a) := by rfl) (ha : a ∈ M := by simp) (hi : X.N[i]? = some x := by rfl)
    (hv : Vis X.env.scope x := by first | exact Or.inl rfl | exact Or.inr (Or.inl rfl) | exact Or.inr (Or.inr rfl)) (hd : (x == ("__debug__" : Str)) = false := by decide) (hcd : (x == ("__classdict__" : Str)) = false := by decide)
    (hpa : ∀ v, assign (.Subscript (.Name x pn) ix p1) X.env v = (do
      let ov ← holding [v] (eval (.Name x pn) X.env)
      let iv ← holding [v, ov] (eval ix X.env)
      standAt p1
      holding [v, ov, iv] (setItem ov iv v)
      release [v, ov, iv] []) := by intro _; rfl)
    (hs : swapsWithSole [.Subscript (.Name x pn) ix p1] e pos.line X.env = pure false := by rfl) (hw : swappedStores [.Subscript (.Name x pn) ix p1] e X.env = pure none := by rfl)
    (h1 : (assignEach [.Subscript (.Name x pn) ix p1] X.env).map (·.2) = [assign (.Subscript (.Name x pn) ix p1) X.env] := by rfl) : SD X M G (D1 ++ (a, ds) :: D2) (.Assign [.Subscript (.Name x pn) ix p1] e pos) N R := fun H0 =>
  PS.by_ (ps_asg h (pg_sub (pe_var hi hv hd hcd) hix set_list hpa) hs hw h1) fun En t H ⟨x0, fr, E, q, _⟩ => ⟨E, fun v H1 e1 f => by
    have E1 := E.mono e1
    refine ⟨_, E1.rf hg, E1, fun u H2 e2 f2 => ?_⟩
    have E2 := E1.mono e2
    have ee := e1.trans e2
    obtain ⟨us, h3, h4⟩ := E2.lists (a, ds) (List.mem_append_right _ (List.mem_cons_self ..))
    refine ⟨a, us, n, j, rfl, f2, h3, by rw [h4.len]; exact hj, ?_⟩
    exact q M G _ t _ (Ex.mut (x0.trans ee) (fr a ha)) ((Ex.tp ee).trans (TP.upd h3)) fr (E2.upd (h4.set j (f.mono (Ex.tp e2)))) hN⟩
/-- what is never reached -/
theorem sd_never (h : False) : SD X M G D st N R := h.elim
theorem sds_dead {sts : List Stmt} (h : False) : SDs X M G D sts N R := h.elim
end
end Gk
end

section
set_option linter.all false
set_option maxRecDepth 100000
namespace Gk
open PySem PySem.Spec PyProof.Rows L2 Evl

/-! ## what is walked: data, one behind the other, as long as the tuples stay -/
structure WD (K : PySem.W.Frag) (J : It) (ds : List PyData) (P : Hp → Prop) : Prop where
  goes : ∀ i H, i < ds.length → P H → J.go i H
  stops : ∀ H, P H → J.stop ds.length H
  yields : ∀ i H x H', i < ds.length → P H → J.yld i H x H' → ∃ d, ds[i]? = some d ∧ Ex H H' ∧ Ft K H' d x
def tI (K : PySem.W.Frag) (G : List Slot) (D : Lists) (ds : List PyData) : TI := fun t H R => EnvE K G D t H ∧ ∀ J H1 P, Ex H H1 → P H1 → (∀ H2 H3, TP K H2 H3 → P H2 → P H3) → WD K J ds P → R J H1
abbrev PId (X : Cx) (G : List Slot) (D : Lists) (tg iter : Expr) (ds : List PyData) : Prop := PI X tg iter (tI X.K G D ds)
theorem PI.by_ {X : Cx} {tg e : Expr} {t u : TI} (h : PI X tg e t) (i : ∀ s H Q, u s H Q → t s H Q) : PI X tg e u := ⟨fun p s c H Q I q => h.run p s c H Q I (i _ _ _ q)⟩
section
variable {X : Cx} {e a b : Expr} {tg : Expr} {G : List Slot} {D : Lists} {ds es : List PyData} {p pos : Pos}
theorem id_tup (h : PD X G D e (.tuple ds)) : PId X G D tg e ds :=
  PI.by_ (pi_tup h) fun t H R ⟨E, q⟩ => ⟨E, fun v H1 e1 f => by
    obtain ⟨a, xs, rfl, s, f⟩ := f
    refine ⟨a, rfl, ⟨xs, s⟩, q _ H1 (fun H => SqT X.K H a xs ∧ Fts X.K H ds xs) e1 ⟨s, f⟩ (fun _ _ tp z => ⟨tp.1 _ _ z.1, z.2.mono tp⟩) ?_⟩
    refine ⟨fun i H hi z => (walk_tup).goes i H (by rw [z.2.len]; exact hi) z.1, fun H z => ?_, fun i H x H' _ z y => ?_⟩
    · rw [← z.2.len]
      exact (walk_tup).stops H z.1
    · obtain ⟨rfl, hx⟩ := y
      obtain ⟨d, hd, fd⟩ := z.2.get' (hx xs z.1)
      exact ⟨d, hd, Ex.refl _, fd⟩⟩
def rngD (lo : Int) (n : Nat) : List PyData := (List.range n).map fun (i : Nat) => .int (lo + i)
theorem wd_range {K : PySem.W.Frag} {lo : Int} {n : Nat} : WD K (Itr lo n) (rngD lo n) fun _ => True := by
  have hl : (rngD lo n).length = n := by unfold rngD; rw [List.length_map, List.length_range]
  refine ⟨fun i H hi _ => by rw [hl] at hi; exact hi, fun H _ => by rw [hl]; exact Nat.le_refl _, fun i H x H' hi _ y => ?_⟩
  obtain ⟨rfl, rfl⟩ := y
  refine ⟨.int (lo + i), ?_, Ex.refl _, rfl⟩
  rw [hl] at hi
  unfold rngD
  rw [List.getElem?_map, List.getElem?_range hi] <;> rfl
theorem id_range1 {j : Int} (h : PD X G D a (.int j)) (h0 : 0 ≤ j) (hj : j < 1000000) (hm : X.mg "range" = none) (hg : Gl X "range" := by rfl) (hs : starEach [a] X.env = [(false, eval a X.env)] := by rfl) : PId X G D tg (.Call (.Name "range" p) [a] [] pos) (rngD 0 j.toNat) :=
  PI.by_ (pi_range1 hg hm (pa_cons h pa_nil hs) hs) fun t H R ⟨E, q⟩ => ⟨E, fun v H1 e1 f => ⟨j, by rw [show v = .int j from f], by omega, by omega, q _ H1 _ e1 True.intro (fun _ _ _ z => z) wd_range⟩⟩
theorem id_range2 {i j : Int} (h : PD X G D a (.int i)) (h2 : PD X G D b (.int j)) (hi : -1000000 < i ∧ i < 1000000) (hj : -1000000 < j ∧ j < 1000000) (hm : X.mg "range" = none) (hg : Gl X "range" := by rfl) (hs : starEach [a, b] X.env = [(false, eval a X.env), (false, eval b X.env)] := by rfl)
    (hs2 : starEach [b] X.env = [(false, eval b X.env)] := by rfl) : PId X G D tg (.Call (.Name "range" p) [a, b] [] pos) (rngD i (j - i).toNat) :=
  PI.by_ (pi_range2 hg hm (pa_cons h (pa_cons h2 pa_nil hs2) (by rw [hs, hs2])) hs hs2) fun t H R ⟨E, q⟩ => ⟨E, fun v H1 e1 f => ⟨E.mono e1, fun u H2 e2 f2 => ⟨i, j, by rw [show v = .int i from f, show u = .int j from f2], ⟨by omega, by omega, by omega, by omega⟩,
    q _ H2 _ (e1.trans e2) True.intro (fun _ _ _ z => z) wd_range⟩⟩⟩
/-- pairs -/
def pairs : List PyData → List PyData → List PyData
  | a :: as, b :: bs => .tuple [a, b] :: pairs as bs
  | _, _ => []
theorem pairs_len : ∀ as bs : List PyData, (pairs as bs).length = min as.length bs.length
  | [], _ => by simp [pairs]
  | _ :: _, [] => by simp [pairs]
  | _ :: as, _ :: bs => by
    show (pairs as bs).length + 1 = _
    rw [pairs_len as bs, List.length_cons, List.length_cons]
    omega
theorem pairs_get : ∀ {as bs : List PyData} {i : Nat} {x y : PyData}, as[i]? = some x → bs[i]? = some y → (pairs as bs)[i]? = some (.tuple [x, y])
  | [], _, _, _, _, h, _ => by simp at h
  | _ :: _, [], _, _, _, _, h => by simp at h
  | a :: as, b :: bs, 0, x, y, h, k => by
    have e1 : a = x := Option.some.inj h
    have e2 : b = y := Option.some.inj k
    subst e1 e2
    rfl
  | a :: as, b :: bs, i + 1, x, y, h, k => pairs_get (as := as) (bs := bs) (i := i) h k
theorem id_zip {elts : List Expr} {kk : Nat} {tpos : Pos} (h : PD X G D a (.tuple ds)) (h2 : PD X G D b (.tuple es)) (hm : X.mg "zip" = none) (hg : Gl X "zip" := by rfl) (hs : starEach [a, b] X.env = (false, eval a X.env) :: starEach [b] X.env := by rfl) (hs2 : starEach [b] X.env = (false, eval b X.env) :: starEach [] X.env := by rfl)
    (hpl : (backTo pos (starEach [b] X.env)).any (·.1) = false := by rfl) : PId X G D (.Tuple elts kk tpos) (.Call (.Name "zip" p) [a, b] [] pos) (pairs ds es) :=
  PI.by_ (RZ.pi_zipA hg hm (pa_cons h (pa_cons h2 pa_nil hs2) hs) hs hpl) fun t H R ⟨E, q⟩ => ⟨E, fun v H1 e1 f => ⟨E.mono e1, fun u H2 e2 f2 => by
    obtain ⟨x, xs, rfl, s1, g1⟩ := f.mono (Ex.tp e2)
    obtain ⟨y, ys, rfl, s2, g2⟩ := f2
    refine ⟨x, y, xs, ys, rfl, .inr ⟨s1, s2, q _ H2 (fun H => (SqT X.K H x xs ∧ Fts X.K H ds xs) ∧ SqT X.K H y ys ∧ Fts X.K H es ys) (e1.trans e2) ⟨⟨s1, g1⟩, s2, g2⟩
      (fun _ _ tp z => ⟨⟨tp.1 _ _ z.1.1, z.1.2.mono tp⟩, tp.1 _ _ z.2.1, z.2.2.mono tp⟩) ?_⟩⟩
    refine ⟨fun i H hi z => ?_, fun H z => ?_, fun i H x' H' _ z w => ?_⟩
    · rw [pairs_len] at hi
      have l1 := z.1.2.len
      have l2 := z.2.2.len
      have h1 : i < xs.length := by omega
      have h2 : i < ys.length := by omega
      exact ⟨xs, ys, xs[i], ys[i], z.1.1, z.2.1, List.getElem?_eq_getElem h1, List.getElem?_eq_getElem h2⟩
    · rw [pairs_len]
      have l1 := z.1.2.len
      have l2 := z.2.2.len
      exact ⟨xs, ys, z.1.1, z.2.1, by omega⟩
    · obtain ⟨T, u1, u2, rfl, hT, rfl, k1, k2⟩ := w
      obtain ⟨d1, c1, f1⟩ := z.1.2.get' (k1 xs z.1.1)
      obtain ⟨d2, c2, f2⟩ := z.2.2.get' (k2 ys z.2.1)
      exact ⟨_, pairs_get c1 c2, Ex.new hT, ft_tup hT ⟨u1, [u2], rfl, f1, Fts.one f2⟩⟩⟩⟩

/-! ## for -/
variable {M : List Addr} {N : NP} {R : Res → Prop} {body : List Stmt} {is : List Nat}
theorem sd_for {α : Type} (enc : α → PyData) (xs : List α) (P : Nat → NP) (hi : PId X G D tg e (xs.map enc)) (h0 : P 0 M G D)
    (hs : ∀ i x M' G' D', xs[i]? = some x → P i M' G' D' → ∃ G2, PGd X is G' tg (enc x) G2 ∧ SDs X M' G2 D' body (P (i + 1)) R) (hd : ∀ M' G' D', P xs.length M' G' D' → N M' G' D')
    (hp : PassesOwn (model X.prog X.w) X.A X.env X.xe := by exact PassesOwn.never) (hc : X.calm = true := by rfl) (hf : ∀ x, foldedSetIterable e X.env x = pure x := by intro _; rfl) : SD X M G D (.For tg e body [] pos) N R := fun H0 => by
  let g : TG := fun x t H k => ∃ d G' G2, PGd X is G' tg d G2 ∧ tG X.K is G' d G2 x t H k
  have hg : PG X tg g := ⟨fun p s t H v u Q I r ⟨d, G', G2, z, q⟩ => z.run p s t H v u Q I r q⟩
  let tb : TS := fun En t H => ∃ i M' G' D', SDs X M' G' D' body (P i) R ∧ tS X.K H0 M' G' D' (P i) R En t H
  have hb : PSs X body tb := ⟨fun p s t H En I ⟨i, M', G', D', z, q⟩ => (z H0).run p s t H En I q⟩
  refine PS.by_ (ps_for hp hc hi hg hb hf) fun En t H ⟨x0, fr, E, q, r⟩ => ⟨E, fun J H1 W e1 w1 wst wd => ?_⟩
  let I : Nat → L2.St → Hp → Prop := fun i t' H' => i ≤ xs.length ∧ Ex H0 H' ∧ TP X.K H1 H' ∧ ∃ M' G' D', (∀ a ∈ M', H0 a = none) ∧ EnvE X.K G' D' t' H' ∧ P i M' G' D'
  refine ⟨fun i m t' H' => m = xs.length - i ∧ I i t' H', ⟨xs.length, rfl, Nat.zero_le _, x0.trans e1, TP.refl _ _, M, G, D, fr, E.mono e1, h0⟩, ?_⟩
  rintro i m t' H' ⟨rfl, hle, x1, tp, M', G', D', fr', E', pi⟩
  have w2 := wst _ _ tp w1
  by_cases hlt : i < xs.length
  · refine .inr ⟨wd.goes i H' (by rw [List.length_map]; exact hlt) w2, I (i + 1), fun t2 H2 z => ⟨_, by have := z.1; omega, rfl, z⟩, fun v H2 y => ?_⟩
    obtain ⟨d, hd', e2, f⟩ := wd.yields i H' v H2 (by rw [List.length_map]; exact hlt) w2 y
    rw [List.getElem?_map] at hd'
    obtain ⟨x, hx, rfl⟩ := Option.map_eq_some_iff.mp hd'
    obtain ⟨G2, hG, hB⟩ := hs i x M' G' D' hx pi
    refine ⟨enc x, G', G2, hG, (E'.mono e2).slots, f, fun t3 S3 _ => ⟨i + 1, M', G2, D', hB, x1.trans e2, fr', ⟨S3, E'.nd, (E'.mono e2).lists⟩, fun M4 G4 D4 t4 H4 x4 tp4 fr4 E4 p4 => ?_, r⟩⟩
    exact ⟨hlt, x4, (tp.trans (Ex.tp e2)).trans tp4, M4, G4, D4, fr4, E4, p4⟩
  · have ei : i = xs.length := by omega
    subst ei
    refine .inl ⟨?_, q M' G' D' t' H' x1 ((Ex.tp e1).trans tp) fr' E' (hd _ _ _ pi)⟩
    have := wd.stops H' w2
    rw [List.length_map] at this
    exact this
/-- over a list: it stands by as long as it is walked -/
theorem sd_forL {α : Type} (enc : α → PyData) (xs : List α) (P : Nat → NP) (hi : PL X G D e (xs.map enc)) (h0 : P 0 M G D)
    (hs : ∀ l i x M' G' D', xs[i]? = some x → P i M' G' D' → ∃ G2, PGd X is G' tg (enc x) G2 ∧ SDs X M' G2 ((l, xs.map enc) :: D') body (fun M2 G3 D2 => ∃ D3, D2 = (l, xs.map enc) :: D3 ∧ P (i + 1) M2 G3 D3) R) (hd : ∀ M' G' D', P xs.length M' G' D' → N M' G' D')
    (hp : PassesOwn (model X.prog X.w) X.A X.env X.xe := by exact PassesOwn.never) (hc : X.calm = true := by rfl) (hf : ∀ x, foldedSetIterable e X.env x = pure x := by intro _; rfl) : SD X M G D (.For tg e body [] pos) N R := fun H0 => by
  let g : TG := fun x t H k => ∃ d G' G2, PGd X is G' tg d G2 ∧ tG X.K is G' d G2 x t H k
  have hg : PG X tg g := ⟨fun p s t H v u Q I r ⟨d, G', G2, z, q⟩ => z.run p s t H v u Q I r q⟩
  let tb : TS := fun En t H => ∃ N' M' G' D', SDs X M' G' D' body N' R ∧ tS X.K H0 M' G' D' N' R En t H
  have hb : PSs X body tb := ⟨fun p s t H En I ⟨N', M', G', D', z, q⟩ => (z H0).run p s t H En I q⟩
  refine PS.by_ (ps_for hp hc (pi_list hi) hg hb hf) fun En t H ⟨x0, fr, E, q, r⟩ => ⟨E, fun l vs H1 n1 e1 s1 f1 => ⟨l, rfl, ⟨vs, SqL.of s1⟩, ?_⟩⟩
  let I : Nat → L2.St → Hp → Prop := fun i t' H' => i ≤ xs.length ∧ Ex H0 H' ∧ TP X.K H1 H' ∧ ∃ M' G' D', (∀ a ∈ M', H0 a = none) ∧ EnvE X.K G' ((l, xs.map enc) :: D') t' H' ∧ P i M' G' D'
  refine ⟨fun i m t' H' => m = xs.length - i ∧ I i t' H', ⟨xs.length, rfl, Nat.zero_le _, x0.trans e1, TP.refl _ _, M, G, D, fr, (E.mono e1).more (E.free n1) s1 f1, h0⟩, ?_⟩
  rintro i m t' H' ⟨rfl, hle, x1, tp, M', G', D', fr', E', pi⟩
  obtain ⟨ws, s2, f2⟩ := E'.lists _ (List.mem_cons_self ..)
  have lw : ws.length = xs.length := by
    have := f2.len
    rw [List.length_map] at this
    exact this
  by_cases hlt : i < xs.length
  · refine .inr ⟨⟨ws, ws[i], SqL.of s2, by simp [lw, hlt]⟩, I (i + 1), fun t2 H2 z => ⟨_, by have := z.1; omega, rfl, z⟩, fun v H2 y => ?_⟩
    obtain ⟨rfl, y⟩ := y
    obtain ⟨d, hd', f⟩ := f2.get' (y ws (SqL.of s2))
    rw [List.getElem?_map] at hd'
    obtain ⟨x, hx, rfl⟩ := Option.map_eq_some_iff.mp hd'
    obtain ⟨G2, hG, hB⟩ := hs l i x M' G' D' hx pi
    refine ⟨enc x, G', G2, hG, E'.slots, f, fun t3 S3 _ => ⟨_, M', G2, _, hB, x1, fr', ⟨S3, E'.nd, E'.lists⟩, fun M4 G4 D4 t4 H4 x4 tp4 fr4 E4 p4 => ?_, r⟩⟩
    obtain ⟨D5, rfl, p5⟩ := p4
    exact ⟨hlt, x4, tp.trans tp4, M4, G4, D5, fr4, E4, p5⟩
  · have ei : i = xs.length := by omega
    subst ei
    exact .inl ⟨⟨ws, SqL.of s2, by omega⟩, q M' G' D' t' H' x1 ((Ex.tp e1).trans tp) fr' E'.less (hd _ _ _ pi)⟩
/-- over a list that a slot holds all the while -/
theorem sd_forV {α : Type} (enc : α → PyData) (xs : List α) (l : Addr) (j : Nat) {x : Str} {pn : Pos} (P : Nat → NP) (h0 : P 0 M G D) (hG : G[j]? = some (.ref l)) (hl : (l, xs.map enc) ∈ D)
    (hs : ∀ i y M' G' D', xs[i]? = some y → P i M' G' D' → (l, xs.map enc) ∈ D' ∧ ∃ G2, PGd X is G' tg (enc y) G2 ∧ SDs X M' G2 D' body (P (i + 1)) R) (hd : ∀ M' G' D', P xs.length M' G' D' → (l, xs.map enc) ∈ D' ∧ N M' G' D')
    (hN : X.N[j]? = some x := by rfl) (hv : Vis X.env.scope x := by first | exact Or.inl rfl | exact Or.inr (Or.inl rfl) | exact Or.inr (Or.inr rfl)) (hdb : (x == ("__debug__" : Str)) = false := by decide) (hcd : (x == ("__classdict__" : Str)) = false := by decide)
    (hp : PassesOwn (model X.prog X.w) X.A X.env X.xe := by exact PassesOwn.never) (hc : X.calm = true := by rfl) (hf : ∀ z, foldedSetIterable (.Name x pn) X.env z = pure z := by intro _; rfl) : SD X M G D (.For tg (.Name x pn) body [] pos) N R := fun H0 => by
  let g : TG := fun x t H k => ∃ d G' G2, PGd X is G' tg d G2 ∧ tG X.K is G' d G2 x t H k
  have hg : PG X tg g := ⟨fun p s t H v u Q I r ⟨d, G', G2, z, q⟩ => z.run p s t H v u Q I r q⟩
  let tb : TS := fun En t H => ∃ N' M' G' D', SDs X M' G' D' body N' R ∧ tS X.K H0 M' G' D' N' R En t H
  have hb : PSs X body tb := ⟨fun p s t H En I ⟨N', M', G', D', z, q⟩ => (z H0).run p s t H En I q⟩
  refine PS.by_ (ps_for hp hc (pi_list (pe_var hN hv hdb hcd)) hg hb hf) fun En t H ⟨x0, fr, E, q, r⟩ => ?_
  obtain ⟨vs, s1, f1⟩ := E.lists _ hl
  refine ⟨_, E.rf hG, l, rfl, ⟨vs, SqL.of s1⟩, ?_⟩
  let I : Nat → L2.St → Hp → Prop := fun i t' H' => i ≤ xs.length ∧ Ex H0 H' ∧ TP X.K H H' ∧ ∃ M' G' D', (∀ a ∈ M', H0 a = none) ∧ EnvE X.K G' D' t' H' ∧ P i M' G' D'
  refine ⟨fun i m t' H' => m = xs.length - i ∧ I i t' H', ⟨xs.length, rfl, Nat.zero_le _, x0, TP.refl _ _, M, G, D, fr, E, h0⟩, ?_⟩
  rintro i m t' H' ⟨rfl, hle, x1, tp, M', G', D', fr', E', pi⟩
  by_cases hlt : i < xs.length
  · obtain ⟨hm, G2, hG2, hB⟩ := hs i xs[i] M' G' D' (List.getElem?_eq_getElem hlt) pi
    obtain ⟨ws, s2, f2⟩ := E'.lists _ hm
    have lw : ws.length = xs.length := by
      have := f2.len
      rw [List.length_map] at this
      exact this
    refine .inr ⟨⟨ws, ws[i], SqL.of s2, by simp [lw, hlt]⟩, I (i + 1), fun t2 H2 z => ⟨_, by have := z.1; omega, rfl, z⟩, fun v H2 y => ?_⟩
    obtain ⟨rfl, y⟩ := y
    obtain ⟨d, hd', f⟩ := f2.get' (y ws (SqL.of s2))
    rw [List.getElem?_map, List.getElem?_eq_getElem hlt] at hd'
    have ed : enc xs[i] = d := Option.some.inj hd'
    subst ed
    refine ⟨_, G', G2, hG2, E'.slots, f, fun t3 S3 _ => ⟨_, M', G2, _, hB, x1, fr', ⟨S3, E'.nd, E'.lists⟩, fun M4 G4 D4 t4 H4 x4 tp4 fr4 E4 p4 => ?_, r⟩⟩
    exact ⟨hlt, x4, tp.trans tp4, M4, G4, D4, fr4, E4, p4⟩
  · have ei : i = xs.length := by omega
    subst ei
    obtain ⟨hm, hn⟩ := hd _ _ _ pi
    obtain ⟨ws, s2, f2⟩ := E'.lists _ hm
    have lw : ws.length = xs.length := by
      have := f2.len
      rw [List.length_map] at this
      exact this
    exact .inl ⟨⟨ws, SqL.of s2, by omega⟩, q M' G' D' t' H' x1 tp fr' E' hn⟩
end
end Gk
end

section
set_option linter.all false
set_option maxRecDepth 100000
namespace Gk
open PySem PySem.Spec PyProof.Rows L2 Evl

/-! ## comprehensions -/
def wipeG (G : List Slot) : List Nat → List Slot
  | [] => G
  | v :: vs => (wipeG G vs).set v .no
section
variable {K : PySem.W.Frag} {H : Hp}
theorem SlotsOk.wiped {G : List Slot} {t : L2.St} (h : SlotsOk K H G t) : ∀ vs : List Nat, SlotsOk K H (wipeG G vs) (wipe t vs)
  | [] => h
  | v :: vs => (SlotsOk.wiped h vs).set v True.intro
end
theorem take_filter {α : Type} {p : α → Bool} {xs : List α} {i : Nat} {x : α} (h : xs[i]? = some x) : (xs.take (i + 1)).filter p = (xs.take i).filter p ++ if p x = true then [x] else [] := by
  rw [List.take_add_one, h, List.filter_append]
  congr 1
  by_cases hp : p x = true
  · simp [hp]
  · simp [hp]
section
variable {X : Cx} {e a b : Expr} {tg iter elt : Expr} {ifs : List Expr} {G : List Slot} {D : Lists} {ds es : List PyData} {p pos : Pos} {scope : Scope} {own : List (Str × Nat)} {is : List Nat}
/-- a comprehension's parts, and that they make the list out -/
structure LC (X : Cx) (G : List Slot) (D : Lists) (elt tg iter : Expr) (ifs : List Expr) (scope : Scope) (own : List (Str × Nat)) (out : List PyData) : Prop where
  ex : ∃ (wi : TI) (g : TG) (tt : TT) (te : TE), PI X tg iter wi ∧ (∀ s H C cl fp, PG (X.blk s H scope (compEnvC scope cl C X.env) fp) tg g) ∧ (∀ s H C cl fp, PTs (X.blk s H scope (compEnvC scope cl C X.env) fp) ifs tt) ∧
    (∀ s H C cl fp, PE (X.blk s H scope (compEnvC scope cl C X.env) fp) elt te) ∧ ∀ t H Q, tL X.K G D out t H Q → tLc wi g tt te (own.map (·.2)) t H Q
/-- what one turn asks: the target takes x, the tests answer, the element is told -/
structure Turn1 {α : Type} (X : Cx) (G : List Slot) (D : Lists) (elt tg : Expr) (ifs : List Expr) (scope : Scope) (own : List (Str × Nat)) (is : List Nat) (enc : α → PyData) (p : α → Bool) (g : α → PyData) (x : α) : Prop where
  ex : ∃ G2, (∀ s H C cl fp, PGd (X.blk s H scope (compEnvC scope cl C X.env) fp) is (wipeG G (own.map (·.2))) tg (enc x) G2) ∧ (∀ s H C cl fp, PTs (X.blk s H scope (compEnvC scope cl C X.env) fp) ifs (tQ X.K G2 D (p x))) ∧
    (p x = true → ∀ s H C cl fp, PD (X.blk s H scope (compEnvC scope cl C X.env) fp) G2 D elt (g x))
theorem lc_of {α : Type} (enc : α → PyData) (xs : List α) (p : α → Bool) (g : α → PyData) (hs : ∀ x ∈ xs, Turn1 X G D elt tg ifs scope own is enc p g x) (his : ∀ i ∈ is, i ∈ own.map (·.2)) (hl : xs.length ≤ 1000)
    (hi : PId X G D tg iter (xs.map enc)) : LC X G D elt tg iter ifs scope own ((xs.filter p).map g) := by
  let gg : TG := fun v t H k => ∃ d G' G2, (∀ s H C cl fp, PGd (X.blk s H scope (compEnvC scope cl C X.env) fp) is G' tg d G2) ∧ tG X.K is G' d G2 v t H k
  let tt : TT := fun t H Q => ∃ G2 b, (∀ s H C cl fp, PTs (X.blk s H scope (compEnvC scope cl C X.env) fp) ifs (tQ X.K G2 D b)) ∧ tQ X.K G2 D b t H Q
  let te : TE := fun t H Q => ∃ G2 d, (∀ s H C cl fp, PD (X.blk s H scope (compEnvC scope cl C X.env) fp) G2 D elt d) ∧ tD X.K G2 D d t H Q
  refine ⟨_, gg, tt, te, hi, fun s H C cl fp => ⟨fun p s' t h9 v u Q I r ⟨d, G', G2, z, q⟩ => (z s H C cl fp).run p s' t h9 v u Q I r q⟩, fun s H C cl fp => ⟨fun p s' t h9 Q I ⟨G2, b, z, q⟩ => (z s H C cl fp).run p s' t h9 Q I q⟩,
    fun s H C cl fp => ⟨fun p s' t h9 Q I ⟨G2, d, z, q⟩ => (z s H C cl fp).run p s' t h9 Q I q⟩, fun t H Q ⟨E, q⟩ => ⟨E, fun J H1 W e1 w1 wst wd Dl nD => ?_⟩⟩
  let I : Nat → Hp → Prop := fun i H' => i ≤ xs.length ∧ Ex H1 H' ∧ ∃ acc, H' Dl = some (.lst acc) ∧ Fts X.K H' (((xs.take i).filter p).map g) acc
  refine ⟨fun i m H' => m = xs.length - i ∧ I i H', ⟨xs.length, rfl, Nat.zero_le _, Ex.new nD, [], upd_same, rfl⟩, ?_⟩
  rintro i m H' ⟨rfl, hle, x1, acc, hD, fa⟩
  have w2 := wst _ _ (Ex.tp x1) w1
  have E1 := E.mono (e1.trans x1)
  by_cases hlt : i < xs.length
  · refine .inr ⟨wd.goes i H' (by rw [List.length_map]; exact hlt) w2, I (i + 1), fun H2 z => ⟨_, by have := z.1; omega, rfl, z⟩, fun v H2 y => ?_⟩
    obtain ⟨d, hd', e2, f⟩ := wd.yields i H' v H2 (by rw [List.length_map]; exact hlt) w2 y
    have hx : xs[i]? = some xs[i] := List.getElem?_eq_getElem hlt
    rw [List.getElem?_map, hx] at hd'
    have ed : enc xs[i] = d := Option.some.inj hd'
    subst ed
    obtain ⟨G2, h1, h2, h3⟩ := (hs xs[i] (List.getElem_mem hlt)).ex
    have E2 := E1.mono e2
    refine ⟨_, _, G2, h1, E2.slots.wiped _, f, fun t3 S3 wz => ⟨?_, ?_⟩⟩
    · rw [wz _ his]
      exact wipe_twice t _
    · refine ⟨G2, _, h2, ⟨S3, E2.nd, E2.lists⟩, fun H3 e3 => ?_⟩
      have xx := (x1.trans e2).trans e3
      cases hp : p xs[i] with
      | true =>
        refine iteT ⟨G2, _, h3 hp, ⟨S3.mono (Ex.tp e3), E2.nd, (E2.mono e3).lists⟩, fun u H4 e4 f4 => ?_⟩
        have hD4 : H4 Dl = some (.lst acc) := e4 _ _ (e3 _ _ (e2 _ _ hD))
        have fa4 : Fts X.K H4 (((xs.take i).filter p).map g) acc := fa.mono (Ex.tp ((e2.trans e3).trans e4))
        have la : acc.length ≤ 1000 := by
          rw [fa4.len, List.length_map]
          exact Nat.le_trans (List.length_filter_le _ _) (by rw [List.length_take]; omega)
        refine ⟨acc, hD4, sz_lt (by omega), hlt, Ex.mut (xx.trans e4) nD, _, upd_same, ?_⟩
        rw [take_filter hx, hp, if_pos rfl, List.map_append]
        exact (fa4.app (Fts.one f4)).mono (TP.upd hD4)
      | false =>
        refine iteF ⟨hlt, xx, acc, e3 _ _ (e2 _ _ hD), ?_⟩
        rw [take_filter hx, hp, if_neg Bool.false_ne_true, List.append_nil]
        exact fa.mono (Ex.tp (e2.trans e3))
  · have ei : i = xs.length := by omega
    subst ei
    rw [List.take_length] at fa
    refine .inl ⟨?_, q Dl acc H' (fresh_back e1 nD) (e1.trans x1) hD fa⟩
    have := wd.stops H' w2
    rw [List.length_map] at this
    exact this
where
  wipe_twice (t : L2.St) : ∀ vs : List Nat, wipe (wipe t vs) vs = wipe t vs
  | [] => rfl
  | v :: vs => by
    show (wipe ((wipe t vs).set v none) vs).set v none = (wipe t vs).set v none
    by_cases h : v ∈ vs
    · rw [wipe_at h, wipe_twice t vs]
    · have key : ∀ (ws : List Nat) (s : L2.St), v ∉ ws → wipe (s.set v none) ws = (wipe s ws).set v none := by
        intro ws s
        induction ws with
        | nil => intro _; rfl
        | cons w ws ih =>
          intro hw
          show (wipe (s.set v none) ws).set w none = ((wipe s ws).set w none).set v none
          rw [ih (fun z => hw (List.mem_cons_of_mem _ z)), List.set_comm _ _ (fun z => hw (by rw [z]; exact List.mem_cons_self ..))]
      rw [key vs _ h, wipe_twice t vs, List.set_set]
/-- the same over a list -/
theorem lc_ofL {α : Type} (enc : α → PyData) (xs : List α) (p : α → Bool) (g : α → PyData) (hs : ∀ x ∈ xs, Turn1 X G D elt tg ifs scope own is enc p g x) (his : ∀ i ∈ is, i ∈ own.map (·.2)) (hl : xs.length ≤ 1000)
    (hi : PR X G D iter (xs.map enc)) : LC X G D elt tg iter ifs scope own ((xs.filter p).map g) := by
  let gg : TG := fun v t H k => ∃ d G' G2, (∀ s H C cl fp, PGd (X.blk s H scope (compEnvC scope cl C X.env) fp) is G' tg d G2) ∧ tG X.K is G' d G2 v t H k
  let tt : TT := fun t H Q => ∃ G2 b, (∀ s H C cl fp, PTs (X.blk s H scope (compEnvC scope cl C X.env) fp) ifs (tQ X.K G2 D b)) ∧ tQ X.K G2 D b t H Q
  let te : TE := fun t H Q => ∃ G2 d, (∀ s H C cl fp, PD (X.blk s H scope (compEnvC scope cl C X.env) fp) G2 D elt d) ∧ tD X.K G2 D d t H Q
  refine ⟨_, gg, tt, te, pi_list hi, fun s H C cl fp => ⟨fun p s' t h9 v u Q I r ⟨d, G', G2, z, q⟩ => (z s H C cl fp).run p s' t h9 v u Q I r q⟩, fun s H C cl fp => ⟨fun p s' t h9 Q I ⟨G2, b, z, q⟩ => (z s H C cl fp).run p s' t h9 Q I q⟩,
    fun s H C cl fp => ⟨fun p s' t h9 Q I ⟨G2, d, z, q⟩ => (z s H C cl fp).run p s' t h9 Q I q⟩, fun t H Q ⟨E, q⟩ => ⟨E, fun l vs H1 e1 s1 f1 => ⟨l, rfl, ⟨vs, SqL.of s1⟩, fun Dl nD => ?_⟩⟩⟩
  let I : Nat → Hp → Prop := fun i H' => i ≤ xs.length ∧ Ex H1 H' ∧ ∃ acc, H' Dl = some (.lst acc) ∧ Fts X.K H' (((xs.take i).filter p).map g) acc
  refine ⟨fun i m H' => m = xs.length - i ∧ I i H', ⟨xs.length, rfl, Nat.zero_le _, Ex.new nD, [], upd_same, rfl⟩, ?_⟩
  rintro i m H' ⟨rfl, hle, x1, acc, hD, fa⟩
  have s2 : H' l = some (.lst vs) := x1 _ _ s1
  have f2 : Fts X.K H' (xs.map enc) vs := f1.mono (Ex.tp x1)
  have lw : vs.length = xs.length := by
    have := f2.len
    rw [List.length_map] at this
    exact this
  have E1 := E.mono (e1.trans x1)
  by_cases hlt : i < xs.length
  · refine .inr ⟨⟨vs, vs[i], SqL.of s2, by simp [lw, hlt]⟩, I (i + 1), fun H2 z => ⟨_, by have := z.1; omega, rfl, z⟩, fun v H2 y => ?_⟩
    obtain ⟨rfl, y⟩ := y
    obtain ⟨d, hd', f⟩ := f2.get' (y vs (SqL.of s2))
    have hx : xs[i]? = some xs[i] := List.getElem?_eq_getElem hlt
    rw [List.getElem?_map, hx] at hd'
    have ed : enc xs[i] = d := Option.some.inj hd'
    subst ed
    obtain ⟨G2, h1, h2, h3⟩ := (hs xs[i] (List.getElem_mem hlt)).ex
    refine ⟨_, _, G2, h1, E1.slots.wiped _, f, fun t3 S3 wz => ⟨?_, ?_⟩⟩
    · rw [wz _ his]
      exact lc_of.wipe_twice t _
    · refine ⟨G2, _, h2, ⟨S3, E1.nd, E1.lists⟩, fun H3 e3 => ?_⟩
      have xx := x1.trans e3
      cases hp : p xs[i] with
      | true =>
        refine iteT ⟨G2, _, h3 hp, ⟨S3.mono (Ex.tp e3), E1.nd, (E1.mono e3).lists⟩, fun u H4 e4 f4 => ?_⟩
        have hD4 : H4 Dl = some (.lst acc) := e4 _ _ (e3 _ _ hD)
        have fa4 : Fts X.K H4 (((xs.take i).filter p).map g) acc := fa.mono (Ex.tp (e3.trans e4))
        have la : acc.length ≤ 1000 := by
          rw [fa4.len, List.length_map]
          exact Nat.le_trans (List.length_filter_le _ _) (by rw [List.length_take]; omega)
        refine ⟨acc, hD4, sz_lt (by omega), hlt, Ex.mut (xx.trans e4) nD, _, upd_same, ?_⟩
        rw [take_filter hx, hp, if_pos rfl, List.map_append]
        exact (fa4.app (Fts.one f4)).mono (TP.upd hD4)
      | false =>
        refine iteF ⟨hlt, xx, acc, e3 _ _ hD, ?_⟩
        rw [take_filter hx, hp, if_neg Bool.false_ne_true, List.append_nil]
        exact fa.mono (Ex.tp e3)
  · have ei : i = xs.length := by omega
    subst ei
    rw [List.take_length] at fa
    exact .inl ⟨⟨vs, SqL.of s2, by omega⟩, q Dl acc H' (fresh_back e1 nD) (e1.trans x1) hD fa⟩
theorem pl_lc {out : List PyData} (h : LC X G D elt tg iter ifs scope own out) (hnd : X.N.Nodup) (ok : BlkOk X.N X.env.scope scope own) (hc : X.calm = true := by rfl) (hf : ∀ x, foldedSetIterable iter X.env x = pure x := by intro _; rfl) :
    PL X G D (.ListComp elt [⟨tg, iter, ifs, 0⟩] scope pos) out := by
  obtain ⟨wi, g, tt, te, h1, h2, h3, h4, i⟩ := h.ex
  exact PE.by_ (pe_lc hc hnd h1 ok h2 h3 h4 hf) i
theorem qs_nil : PTs X [] (tQ X.K G D true) := ⟨fun p s t H Q I q => pts_nil.run p s t H Q I (q.2 H (Ex.refl H))⟩
theorem qs_one {c : Expr} {b : Bool} (h : PQ X G D c b) : PTs X [c] (tQ X.K G D b) := pts_one h
/-- name = [..] -/
theorem sd_asgLc {out : List PyData} {M : List Addr} {N : NP} {R : Res → Prop} (i : Nat) {y : Str} {py spos : Pos} (h : LC X G D elt tg iter ifs scope own out) (hnd : X.N.Nodup) (ok : BlkOk X.N X.env.scope scope own) (hN : ∀ a, N (a :: M) (G.set i (.ref a)) ((a, out) :: D))
    (hsw : swapsWith (.ListComp elt [⟨tg, iter, ifs, 0⟩] scope pos) (some (.Name y py)) spos.line X.env = pure true) (hy : X.N[i]? = some y := by rfl) (hyl : X.env.scope.names.lookup y = some .local := by rfl) (hc : X.calm = true := by rfl) (hf : ∀ x, foldedSetIterable iter X.env x = pure x := by intro _; rfl) :
    SD X M G D (.Assign [.Name y py] (.ListComp elt [⟨tg, iter, ifs, 0⟩] scope pos) spos) N R := fun H0 => by
  obtain ⟨wi, g, tt, te, h1, h2, h3, h4, z⟩ := h.ex
  refine PS.by_ (ps_setLc hc hnd hy hyl hsw h1 ok h2 h3 h4 hf) fun En t H ⟨x0, fr, E, q, _⟩ => z t H _ ⟨E, fun a vs H1 n e1 s f => q (a :: M) _ _ _ H1 (x0.trans e1) (Ex.tp e1)
    (fun b hb => by
      rcases List.mem_cons.mp hb with rfl | hb
      · exact fresh_back x0 n
      · exact fr b hb) (((E.mono e1).more (E.free n) s f).putR) (hN a)⟩
end

/-! ## a def -/
theorem slots_start {K : PySem.W.Frag} {H : Hp} (n : Nat) : ∀ {ds : List PyData} {vs : List V}, Fts K H ds vs → SlotsOk K H (ds.map .dat ++ List.replicate n .no) (vs.map some ++ List.replicate n none)
  | [], vs, h => by
    have e : vs = [] := h
    subst e
    show SlotsOk K H (List.replicate n .no) (List.replicate n none)
    induction n with
    | zero => exact True.intro
    | succ n ih => exact ⟨none, _, List.replicate_succ, True.intro, ih⟩
  | d :: ds, _, ⟨v, vs, e, q, r⟩ => by
    subst e
    exact ⟨some v, _, rfl, ⟨v, rfl, q⟩, slots_start n r⟩
section
variable {P : Program} {w : World} {K : PySem.W.Frag} {mg : Str → Option Value} {base : Heap} {x qual : Str} {params : Arguments} {body : List Stmt} {scope : Scope} {dvs : List V} {kws : List (Str × V)} {f : Addr} {fd : FuncData}
theorem fn_body {N ps : List Str} {k : Nat} {R : List PyData → Res → Prop} (F : FunD K x qual params body scope dvs kws f fd) (S : FnScope N ps scope) (hlen : ∀ ds r, R ds r → ds.length = ps.length)
    (hbody : ∀ (cdv : Value) (A : Around) (outer : List Env) (s : Shared) (H : Hp) (E : XK), Room k (A.deeper (envOfC qual scope s.heap.objs.size f cdv)) → ∀ ds r, R ds r →
      SDs (cxOf CX0 P w K mg base N qual scope f cdv A outer s H E).nox [] (ds.map .dat ++ List.replicate (N.length - ps.length) .no) [] body (fun _ _ _ => r = .dat .none) (fun r' => r' = r)) : FnOk P w K mg base CX0 (k + 1) f fd ps (spD K R) := by
  refine FunD.ok F S (fun vs H Q E h => ?_) (fun cdv A outer s H vs Q E hr h => ?_)
  · obtain ⟨ds, r, hf, hR, _⟩ := h
    rw [hf.len]
    exact hlen ds r hR
  · obtain ⟨ds, r, hf, hR, q⟩ := h
    have hb := hbody cdv A outer s H E hr ds r hR H
    refine ⟨_, hb.nox, Ex.refl H, fun a z => (nomatch z), ⟨?_, List.nodup_nil, fun p hp => (nomatch hp)⟩, fun M' G' D' t' H' e1 _ _ _ z => q _ H' e1 ?_, fun v H' r' e1 ok z => q v H' e1 ?_⟩
    · have hl : vs.length = ps.length := by rw [hf.len]; exact hlen ds r hR
      show SlotsOk K H _ (L2.start N vs)
      unfold L2.start
      rw [hl]
      exact slots_start _ hf
    · rw [z]
      rfl
    · rw [← z]
      exact ok
end
end Gk
end

section
set_option linter.all false
set_option maxRecDepth 100000
namespace Gk
open PySem PySem.Spec PyProof.Rows L2 Evl
open AutoSeq1 (wpAny_loadPart')

abbrev tIter (t : Addr) : Obj := { cls := .type "tuple_iterator", data := .fields #[.ref t, .int 0 0] }
abbrev tEnum (z : Addr) : Obj := { cls := .type "enumerate", data := .fields #[.none, .bool false, .ref z, rawInt 0, .none, .none] }
theorem enT_new (t : Addr) (its : Array Value) (n : Nat) (dd : Option Addr) (sl : Array (Option Value)) :
    Meets (Builtin.«enumerate.__new__» ⟨[.type "enumerate", .ref t], []⟩) (fun _ R s =>
      s.heap.get? t = some { cls := .type "tuple", dict := dd, data := .seq its n, slots := sl } ∧ R (.ok (.ret (.ref (s.heap.push (tIter t)).objs.size))) { s with heap := (s.heap.push (tIter t)).push (tEnum s.heap.objs.size) }) :=
  .of_wp fun prog w A R s h => by
    obtain ⟨hp, gg, dr, tk, os⟩ := s
    obtain ⟨ht, h⟩ := h
    have hsub := sub_enumerate
    have hT : Heap.IsTuple (Shared.heap ⟨hp, gg, dr, tk, os⟩) t its := ⟨_, ht, rfl, n, rfl⟩
    wp_walk using wpAny_loadPart' ht
    refine wpAny_stack_any fun _ => wpAny_pure ?_
    split
    · rename_i c _ _ _ _ _
      cases (c == Value.type "enumerate")
      all_goals
        wp_walk using wpAny_loadPart' ht, wpAny_pyIter_tuple hT
        exact ⟨_, rfl, h⟩
    · wp_walk using wpAny_loadPart' ht, wpAny_pyIter_tuple hT
      exact ⟨_, rfl, h⟩
section
variable {prog : Program} {w : World} {A : Around} {E : Value → Shared → Prop} {s : Shared}
theorem call_enT {t : Addr} {its : Array Value} {Q : Value → Shared → Prop} (hT : s.heap.IsTuple t its)
    (h : ∀ h', IsEnum h' (s.heap.objs.size + 1) s.heap.objs.size 0 .none → h'.IsTupleIter s.heap.objs.size t 0 → (∀ b o, s.heap.get? b = some o → h'.get? b = some o) → Q (.ref (s.heap.objs.size + 1)) { s with heap := h' }) :
    wpAny (model prog w) A (call (.type "enumerate") [.ref t]) Q E s := by
  obtain ⟨⟨c, dd, dt, sl⟩, ht, hc, n, hd⟩ := hT
  replace hc : c = .type "tuple" := hc
  replace hd : dt = .seq its n := hd
  subst hc hd
  refine callType_new F.called_enumerate (by decide) (F.typeCall_enumerate_1 _) (F.newCall_enumerate_1 _) (fun ob => F.args_object_init_2 ob _) F.entry_enumerate_new (enT_new t its n dd sl) ⟨ht, ?_⟩
  have hz : (s.heap.push (tIter t)).objs.size = s.heap.objs.size + 1 := Heap.size_push ..
  show _ ∧ _
  rw [hz]
  have he : IsEnum ((s.heap.push (tIter t)).push (tEnum s.heap.objs.size)) (s.heap.objs.size + 1) s.heap.objs.size 0 .none := by
    have q := Heap.get?_push_size (s.heap.push (tIter t)) (o := tEnum s.heap.objs.size) rfl
    rw [hz] at q
    exact q
  exact ⟨⟨_, he, rfl⟩, h _ he ⟨_, Heap.get?_push_of_some _ (Heap.get?_push_size _ rfl), rfl, rfl⟩ fun b o x => Heap.get?_push_of_some _ (Heap.get?_push_of_some _ x)⟩
end
/-- the tuple at a as it stands at each turn, each item in a new pair behind its number -/
def ItN (K : PySem.W.Frag) (a : Addr) : It :=
  ⟨fun i H => ∃ (xs : List V) (x : V), SqT K H a xs ∧ xs[i]? = some x,
   fun i H v H' => ∃ T x, v = .ref T ∧ H T = none ∧ H' = upd H T (.tup [.int (i : Nat), x]) ∧ ∀ xs, SqT K H a xs → xs[i]? = some x,
   fun i H => ∃ xs : List V, SqT K H a xs ∧ xs.length = i⟩
theorem turn_enT {P : Program} {w : World} {K : PySem.W.Frag} {elts : List Expr} {kk : Nat} {tpos : Pos} (a e it : Addr) (hai : a ≠ it) :
    Turn P w K (.Tuple elts kk tpos) (ItN K a) [e, it] e (fun i h => (∃ old, IsEnum h e it ((i : Nat) : Int) old) ∧ h.IsTupleIter it a i ∧ e ≠ it ∧ e ≠ a) where
  mem := List.mem_cons_self ..
  obj := fun i h st b hb => by
    obtain ⟨⟨old, he⟩, ⟨o, ho, hc, hd⟩, _, _⟩ := st
    rcases List.mem_cons.mp hb with z | z
    · subst z
      exact ⟨_, he, fun v q => nomatch q⟩
    · have z2 : b = it := by simpa using z
      subst z2
      exact ⟨o, ho, fun v q => by rw [hd] at q; cases q⟩
  keep := fun i h h' st k => by
    obtain ⟨⟨old, he⟩, hi, n1, n2⟩ := st
    exact ⟨⟨old, k e (List.mem_cons_self ..) _ he⟩, hi.at fun o q => k it (by simp) o q, n1, n2⟩
  item := by
    intro X hP hw hK hc i pins s σ H E I hf st hg
    subst hP hw hK
    obtain ⟨⟨old, he⟩, hit, hne, hea⟩ := st
    obtain ⟨xs, x, hq, hx⟩ := hg
    obtain ⟨its, rv, p, hz⟩ := I.tuple hq
    obtain ⟨u, hu, ru⟩ := rv.get hx
    have hel : e < s.heap.objs.size := Heap.lt_size he
    have hil : it < s.heap.objs.size := by
      obtain ⟨_, q, _⟩ := hit
      exact Heap.lt_size q
    have hlt : i < its.toArray.size := by
      rw [List.size_toArray]
      exact (List.getElem?_eq_some_iff.mp hu).1
    have Dr := Draws.tuple (prog := X.prog) (w := X.w) (A := X.A.in1) (show X.A.in1.handled = none from I.ok.hd hc) it a hai its.toArray
    refine wpAny_pyNext_enum_itemD Dr he ⟨hit, p⟩ hlt hne (by simp [hne, hea]) fun y h' tk hy ho st' hT hsz hk => ?_
    have ey : y = u := by
      have e1 : its[i]? = some y := by simpa using hy
      rw [hu] at e1
      exact (Option.some.inj e1).symm
    subst ey
    refine ⟨_, rfl, wpAny_letOwnedTupleGo_enum (s := { s with heap := h', toks := tk + 1 }) ho fun h'' he' sb => ?_⟩
    have hT2 : h''.get? s.heap.objs.size = some { cls := .type "tuple", data := .seq #[.int i tk, y] } := (sb.2 _ (Nat.ne_of_gt hel)).trans hT
    have new : ObjOk X.prog X.w (upd H s.heap.objs.size (.tup [.int (i : Nat), x])) h'' s.heap.objs.size (.tup [.int (i : Nat), x]) := by
      refine ⟨?_, [.int i tk, y], .cons ⟨_, rfl⟩ (.cons ru .nil), _, hT2, rfl, _, rfl⟩
      show 2 ≤ sizeLine
      decide
    have I1 : Inv X pins σ (upd H s.heap.objs.size (.tup [.int (i : Nat), x])) { s with heap := h'', toks := tk + 1 } :=
      I.turnedNew (ch := [e, it]) (fun b ob hb q => by
        have b1 : b ≠ e := fun z => hb (by rw [z]; exact List.mem_cons_self ..)
        have b2 : b ≠ it := fun z => hb (by rw [z]; simp)
        exact (sb.2 b b1).trans (hk b ob b1 b2 q)) hf (Nat.le_refl _) new
    refine ⟨.ref s.heap.objs.size, _, I1, rfl, ⟨_, x, rfl, I.hok.fresh (Nat.le_refl _), rfl, fun ys hy => ?_⟩, ⟨⟨y, ?_⟩, ?_, hne, hea⟩, fun b hb => ?_⟩
    · rw [I.tuple_inj hy hq]
      exact hx
    · rw [show ((i + 1 : Nat) : Int) = (i : Int) + 1 by omega]
      exact he'
    · exact st'.1.at fun o q => (sb.2 it (Ne.symm hne)).trans q
    · have hb' : b < s.heap.objs.size := by
        rcases List.mem_cons.mp hb with z | z
        · rw [z]
          exact hel
        · rw [show b = it by simpa using z]
          exact hil
      rw [upd_ne (Nat.ne_of_lt hb')]
      exact (hf b hb).1
  done := by
    intro X hP hw hK hc i pins s σ H E I hf st hg
    subst hP hw hK
    obtain ⟨⟨old, he⟩, hit, hne, hea⟩ := st
    obtain ⟨xs, hq, hx⟩ := hg
    obtain ⟨its, rv, p, hz⟩ := I.tuple hq
    have hn : its.toArray.size = i := by
      rw [List.size_toArray, ← rv.length]
      exact hx
    obtain ⟨f0, f1, f2, f3, f4, f5⟩ := hf it (by simp)
    have Dr := Draws.tuple (prog := X.prog) (w := X.w) (A := X.A.in1) (show X.A.in1.handled = none from I.ok.hd hc) it a hai its.toArray
    refine wpAny_pyNext_enum_endD Dr he (by rw [hn]; exact ⟨hit, p⟩) fun h' eb => ⟨rfl, I.turned (t' := s.toks) (fun b o hb q => eb b o hb q) f0 f1 f3 f4 f5⟩
  self := fun A i s Q E st h => by
    obtain ⟨⟨_, he⟩, _⟩ := st
    exact wpAny_pyIter_enum he h
/-- the pairs of enumerate -/
def enums : Nat → List PyData → List PyData
  | _, [] => []
  | k, d :: ds => .tuple [.int k, d] :: enums (k + 1) ds
theorem enums_len : ∀ (k : Nat) (ds : List PyData), (enums k ds).length = ds.length
  | _, [] => rfl
  | k, _ :: ds => congrArg Nat.succ (enums_len (k + 1) ds)
theorem enums_get : ∀ {k : Nat} {ds : List PyData} {i : Nat} {d : PyData}, ds[i]? = some d → (enums k ds)[i]? = some (.tuple [.int ((k + i : Nat) : Int), d])
  | _, [], _, _, h => by simp at h
  | k, x :: ds, 0, d, h => by
    have e : x = d := Option.some.inj h
    subst e
    rfl
  | k, x :: ds, i + 1, d, h => by
    have q := enums_get (k := k + 1) (ds := ds) (i := i) (d := d) h
    rw [show k + (i + 1) = k + 1 + i by omega]
    exact q
theorem id_enum {X : Cx} {e : Expr} {G : List Slot} {D : Lists} {ds : List PyData} {p pos tpos : Pos} {elts : List Expr} {kk : Nat} (h : PD X G D e (.tuple ds)) (hm : X.mg "enumerate" = none) (hg : Gl X "enumerate" := by rfl) (hs : starEach [e] X.env = [(false, eval e X.env)] := by rfl) :
    PId X G D (.Tuple elts kk tpos) (.Call (.Name "enumerate" p) [e] [] pos) (enums 0 ds) := by
  refine ⟨fun pins s t H R I q => ?_⟩
  have hA := (pa_cons h pa_nil hs).run pos pins s t H (fun vs H1 => ∃ v, vs = [v] ∧ Ex H H1 ∧ Ft X.K H1 (.tuple ds) v) I ⟨q.1, fun v H1 e1 f1 => ⟨v, rfl, e1, f1⟩⟩
  refine Call_ (ld_blt I hg hm boot_enumerate (PyProof.Rows.callWith_type1 (thn hA fun us s1 ⟨vs, H1, I1, r1, v, ev, e1, f1⟩ => ?_) hs rfl))
  subst ev
  obtain ⟨a, xs, rfl, sq, fx⟩ := f1
  obtain ⟨u, rfl, ru⟩ := vals1 r1
  cases ru
  obtain ⟨its, rv, pt, hz⟩ := I1.tuple sq
  have al : a < s1.heap.objs.size := by
    obtain ⟨_, z, _⟩ := pt
    exact Heap.lt_size z
  refine call_enT (show s1.heap.IsTuple a its.toArray from pt) fun h' he hit hk => wpAny_pyIter_enum he ?_
  have I2 : Inv X pins t H1 { s1 with heap := h' } := I1.kept (t' := s1.toks) hk
  refine ⟨s1.heap.objs.size + 1, [s1.heap.objs.size + 1, s1.heap.objs.size], _, ItN X.K a, H1, rfl, I2, turn_enT a (s1.heap.objs.size + 1) s1.heap.objs.size (Nat.ne_of_lt al), ⟨⟨.none, he⟩, hit, Nat.succ_ne_self _, Nat.ne_of_gt (Nat.lt_succ_of_lt al)⟩, fun b hb => ?_, ?_⟩
  · have hle : s1.heap.objs.size ≤ b := by
      rcases List.mem_cons.mp hb with z | z
      · rw [z]
        exact Nat.le_succ _
      · rw [show b = s1.heap.objs.size by simpa using z]
        exact Nat.le_refl _
    exact I1.fpOk hle (I1.hok.fresh hle)
  · refine q.2 _ H1 (fun H => SqT X.K H a xs ∧ Fts X.K H ds xs) e1 ⟨sq, fx⟩ (fun _ _ tp z => ⟨tp.1 _ _ z.1, z.2.mono tp⟩) ⟨fun i H2 hi z => ?_, fun H2 z => ?_, fun i H2 x H3 hi z y => ?_⟩
    · rw [enums_len, ← z.2.len] at hi
      exact ⟨xs, xs[i], z.1, List.getElem?_eq_getElem hi⟩
    · rw [enums_len]
      exact ⟨xs, z.1, z.2.len⟩
    · obtain ⟨T, x1, rfl, hT, rfl, hx⟩ := y
      obtain ⟨d, hd, fd⟩ := z.2.get' (hx xs z.1)
      refine ⟨_, enums_get hd, Ex.new hT, ft_tup hT ⟨.int (i : Nat), [x1], rfl, ?_, Fts.one fd⟩⟩
      rw [Nat.zero_add] <;> rfl
end Gk
end

section
set_option linter.all false
set_option maxRecDepth 100000
namespace Gk
open PySem PySem.Spec PyProof.Rows L2 Evl

/-! ## isinstance -/
def isTup : PyData → Bool
  | .tuple _ => true
  | _ => false
def isInt : PyData → Bool
  | .int _ => true
  | .bool _ => true
  | _ => false
def isBool : PyData → Bool
  | .bool _ => true
  | _ => false
def isStr : PyData → Bool
  | .str _ => true
  | _ => false
theorem ft_kit {K : PySem.W.Frag} {H : Hp} {v : V} {T : String} (f : PyData → Bool) (hf : ∀ d, (∀ ds, d ≠ .list ds) → (∀ ds, d ≠ .dict ds) → kitB (tyN d) T = some (f d)) {d : PyData} (h : Ft K H d v) : kitB (tyN d) T = some (f d) :=
  hf d (fun ds e => by subst e; exact h) (fun ds e => by subst e; exact h)
theorem kit_tup (d : PyData) (h1 : ∀ ds, d ≠ .list ds) (h2 : ∀ ds, d ≠ .dict ds) : kitB (tyN d) "tuple" = some (isTup d) := by
  cases d with
  | list ds => exact absurd rfl (h1 ds)
  | dict ds => exact absurd rfl (h2 ds)
  | none => show kitB "NoneType" "tuple" = some false; decide +kernel
  | bool _ => show kitB "bool" "tuple" = some false; decide +kernel
  | int _ => show kitB "int" "tuple" = some false; decide +kernel
  | str _ => show kitB "str" "tuple" = some false; decide +kernel
  | tuple _ => show kitB "tuple" "tuple" = some true; decide +kernel
theorem kit_int (d : PyData) (h1 : ∀ ds, d ≠ .list ds) (h2 : ∀ ds, d ≠ .dict ds) : kitB (tyN d) "int" = some (isInt d) := by
  cases d with
  | list ds => exact absurd rfl (h1 ds)
  | dict ds => exact absurd rfl (h2 ds)
  | none => show kitB "NoneType" "int" = some false; decide +kernel
  | bool _ => show kitB "bool" "int" = some true; decide +kernel
  | int _ => show kitB "int" "int" = some true; decide +kernel
  | str _ => show kitB "str" "int" = some false; decide +kernel
  | tuple _ => show kitB "tuple" "int" = some false; decide +kernel
theorem kit_bool (d : PyData) (h1 : ∀ ds, d ≠ .list ds) (h2 : ∀ ds, d ≠ .dict ds) : kitB (tyN d) "bool" = some (isBool d) := by
  cases d with
  | list ds => exact absurd rfl (h1 ds)
  | dict ds => exact absurd rfl (h2 ds)
  | none => show kitB "NoneType" "bool" = some false; decide +kernel
  | bool _ => show kitB "bool" "bool" = some true; decide +kernel
  | int _ => show kitB "int" "bool" = some false; decide +kernel
  | str _ => show kitB "str" "bool" = some false; decide +kernel
  | tuple _ => show kitB "tuple" "bool" = some false; decide +kernel
theorem kit_str (d : PyData) (h1 : ∀ ds, d ≠ .list ds) (h2 : ∀ ds, d ≠ .dict ds) : kitB (tyN d) "str" = some (isStr d) := by
  cases d with
  | list ds => exact absurd rfl (h1 ds)
  | dict ds => exact absurd rfl (h2 ds)
  | none => show kitB "NoneType" "str" = some false; decide +kernel
  | bool _ => show kitB "bool" "str" = some false; decide +kernel
  | int _ => show kitB "int" "str" = some false; decide +kernel
  | str _ => show kitB "str" "str" = some true; decide +kernel
  | tuple _ => show kitB "tuple" "str" = some false; decide +kernel

/-! ## the module's names -/
structure Txt (K : PySem.W.Frag) (mg : Str → Option Value) : Prop where
  len : mg "len" = none
  abs : mg "abs" = none
  tuple : mg "tuple" = none
  list : mg "list" = none
  all : mg "all" = none
  sorted : mg "sorted" = none
  range : mg "range" = none
  enumerate : mg "enumerate" = none
  zip : mg "zip" = none
  isinstance : mg "isinstance" = none
  int : mg "int" = none
  bool : mg "bool" = none
  str : mg "str" = none
  max : mg "max" = none
section
variable {X : Cx} {e : Expr} {G : List Slot} {D : Lists} {d : PyData} {pos : Pos} {a : Expr}
theorem pd_isiF {T : String} (f : PyData → Bool) (hf : ∀ d, (∀ ds, d ≠ .list ds) → (∀ ds, d ≠ .dict ds) → kitB (tyN d) T = some (f d)) {pn p2 : Pos} {nm : Str} (ha : PD X G D a d) (hm : X.mg "isinstance" = none) (hT : X.mg nm = none) (hv : bootBuiltins nm = some (.type T)) (hg : Gl X "isinstance") (hgT : Gl X nm)
    (hs : starEach [a, .Name nm p2] X.env = (false, eval a X.env) :: starEach [.Name nm p2] X.env) (hn : nm ≠ "__name__") (hdb : (nm == ("__debug__" : Str)) = false) : PD X G D (.Call (.Name "isinstance" pn) [a, .Name nm p2] [] pos) (.bool (f d)) :=
  PE.by_ (pe_callB call_isi hg hm (by decide +kernel) (pa_cons ha (pa_cons (pe_bltn (v := .ty T) hgT hT hv rfl hn hdb) pa_nil (by rfl)) hs) (by decide) (by decide) hs (by rfl)) fun t H Q ⟨E, r⟩ => ⟨E, fun v H1 e1 z =>
    ⟨v, .ty T, _, _, f d, rfl, ClsV.ty T, ft_ty z, kit_ty (ft_kit f hf z), r _ H1 e1 rfl⟩⟩
theorem pd_isT (T : Txt X.K X.mg) {pn p2 : Pos} (ha : PD X G D a d) (hg : Gl X "isinstance" := by rfl) (hgT : Gl X "tuple" := by rfl) (hs : starEach [a, .Name "tuple" p2] X.env = (false, eval a X.env) :: starEach [.Name "tuple" p2] X.env := by rfl) : PD X G D (.Call (.Name "isinstance" pn) [a, .Name "tuple" p2] [] pos) (.bool (isTup d)) :=
  pd_isiF isTup kit_tup ha T.isinstance T.tuple (by decide +kernel) hg hgT hs (by decide) (by decide)
theorem pd_isI (T : Txt X.K X.mg) {pn p2 : Pos} (ha : PD X G D a d) (hg : Gl X "isinstance" := by rfl) (hgT : Gl X "int" := by rfl) (hs : starEach [a, .Name "int" p2] X.env = (false, eval a X.env) :: starEach [.Name "int" p2] X.env := by rfl) : PD X G D (.Call (.Name "isinstance" pn) [a, .Name "int" p2] [] pos) (.bool (isInt d)) :=
  pd_isiF isInt kit_int ha T.isinstance T.int (by decide +kernel) hg hgT hs (by decide) (by decide)
theorem pd_isB (T : Txt X.K X.mg) {pn p2 : Pos} (ha : PD X G D a d) (hg : Gl X "isinstance" := by rfl) (hgT : Gl X "bool" := by rfl) (hs : starEach [a, .Name "bool" p2] X.env = (false, eval a X.env) :: starEach [.Name "bool" p2] X.env := by rfl) : PD X G D (.Call (.Name "isinstance" pn) [a, .Name "bool" p2] [] pos) (.bool (isBool d)) :=
  pd_isiF isBool kit_bool ha T.isinstance T.bool (by decide +kernel) hg hgT hs (by decide) (by decide)
theorem pd_isS (T : Txt X.K X.mg) {pn p2 : Pos} (ha : PD X G D a d) (hg : Gl X "isinstance" := by rfl) (hgT : Gl X "str" := by rfl) (hs : starEach [a, .Name "str" p2] X.env = (false, eval a X.env) :: starEach [.Name "str" p2] X.env := by rfl) : PD X G D (.Call (.Name "isinstance" pn) [a, .Name "str" p2] [] pos) (.bool (isStr d)) :=
  pd_isiF isStr kit_str ha T.isinstance T.str (by decide +kernel) hg hgT hs (by decide) (by decide)
theorem cd_eq' {k : Nat} {b : Expr} {d1 d2 : PyData} (hr : Room k X.A) (ha : PD X G D a d1) (hb : PD X G D b d2) (s1 : sh 9 d1 = true := by rfl) (s2 : sh 9 d2 = true := by rfl) : CD X G D .Eq a b (PyData.eqv d1 d2) := cd_eq hr ha hb (sh_shaped s1) (sh_shaped s2)
theorem cd_ne' {k : Nat} {b : Expr} {d1 d2 : PyData} (hr : Room k X.A) (ha : PD X G D a d1) (hb : PD X G D b d2) (s1 : sh 9 d1 = true := by rfl) (s2 : sh 9 d2 = true := by rfl) : CD X G D .NotEq a b (!PyData.eqv d1 d2) := cd_ne hr ha hb (sh_shaped s1) (sh_shaped s2)
/-! ## while -/
theorem sd_while {M : List Addr} {N : NP} {R : Res → Prop} {c : Expr} {body : List Stmt} (P : Nat → NP) (m : Nat) (h0 : P m M G D)
    (hs : ∀ m M' G' D', P m M' G' D' → ∃ b, PQ X G' D' c b ∧ (b = true → SDs X M' G' D' body (fun M2 G2 D2 => ∃ m', m' < m ∧ P m' M2 G2 D2) R) ∧ (b = false → N M' G' D'))
    (hp : PassesOwn (model X.prog X.w) X.A X.env X.xe := by exact PassesOwn.never) : SD X M G D (.While c body [] pos) N R := fun H0 => by
  let tc : TT := fun t H Q => ∃ G' D' b, PQ X G' D' c b ∧ tQ X.K G' D' b t H Q
  have hc : PT X c tc := ⟨fun p s t H Q I ⟨G', D', b, z, q⟩ => z.run p s t H Q I q⟩
  let tb : TS := fun En t H => ∃ N' M' G' D', SDs X M' G' D' body N' R ∧ tS X.K H0 M' G' D' N' R En t H
  have hb : PSs X body tb := ⟨fun p s t H En I ⟨N', M', G', D', z, q⟩ => (z H0).run p s t H En I q⟩
  refine PS.by_ (ps_while hp hc hb) fun En t H ⟨x0, fr, E, q, r⟩ => ?_
  let I : Nat → L2.St → Hp → Prop := fun m t' H' => Ex H0 H' ∧ TP X.K H H' ∧ ∃ M' G' D', (∀ a ∈ M', H0 a = none) ∧ EnvE X.K G' D' t' H' ∧ P m M' G' D'
  refine ⟨I, ⟨m, x0, TP.refl _ _, M, G, D, fr, E, h0⟩, ?_⟩
  rintro m t' H' ⟨x1, tp, M', G', D', fr', E', pi⟩
  obtain ⟨b, hq, h1, h2⟩ := hs m M' G' D' pi
  refine ⟨G', D', b, hq, E', fun H2 e2 => ?_⟩
  cases b with
  | true =>
    refine iteT ⟨fun t3 H3 => ∃ m', m' < m ∧ I m' t3 H3, fun t3 H3 z => z, _, M', G', D', h1 rfl, x1.trans e2, fr', E'.mono e2, fun M4 G4 D4 t4 H4 x4 tp4 fr4 E4 p4 => ?_, r⟩
    obtain ⟨m', hm, p5⟩ := p4
    exact ⟨m', hm, x4, (tp.trans (Ex.tp e2)).trans tp4, M4, G4, D4, fr4, E4, p5⟩
  | false => exact iteF (q M' G' D' t' H2 (x1.trans e2) (tp.trans (Ex.tp e2)) fr' (E'.mono e2) (h2 rfl))
end

/-! ## keywords -/
/-- the values of keywords -/
def tDk := @tDs
abbrev PKd (X : Cx) (G : List Slot) (D : Lists) (ks : List Keyword) (ds : List PyData) : Prop := PK X ks (tDs X.K G D ds)
theorem PK.by_ {X : Cx} {ks : List Keyword} {t u : TA} (h : PK X ks t) (i : ∀ s H Q, u s H Q → t s H Q) : PK X ks u := ⟨fun z p s c H Q I q => h.run z p s c H Q I (i _ _ _ q)⟩
section
variable {X : Cx} {e : Expr} {G : List Slot} {D : Lists} {d : PyData} {ds : List PyData} {ks : List Keyword} {nm : Option Str} {kpos : Pos}
theorem kd_nil : PKd X G D [] [] := PK.by_ pk_nil fun t H Q ⟨_, q⟩ => q [] H (Ex.refl H) rfl
theorem kd_cons (h : PD X G D e d) (hr : PKd X G D ks ds) : PKd X G D (⟨nm, e, kpos⟩ :: ks) (d :: ds) :=
  PK.by_ (pk_cons h hr) fun t H Q ⟨E, q⟩ => ⟨E, fun v H1 e1 f1 => ⟨E.mono e1, fun vs H2 e2 f2 => q (v :: vs) H2 (e1.trans e2) ⟨v, vs, rfl, f1.mono (Ex.tp e2), f2⟩⟩⟩
/-- f(k = v, ..): no positional value -/
theorem pe_kw0 {k : Nat} {CX : CXT} {f : Addr} {fd : FuncData} {ps kn : List Str} {sp : Sp} {E : XK} {x : Str} {p pos : Pos} {tk : TA} {g : List Value → List Value → List Value} {gV : List V → List V → List V} (F : FnOk X.prog X.w X.K X.mg X.base CX k f fd ps sp) (hr : Room k X.A) (hg : Gl X x) (hm : X.mg x = some (.ref f))
    (hk : PySem.W.keepIn X.K (.ref f) = true) (hb : KBn X.K fd ps 0 kn g gV) (hx : Passes CX X E) (hkw : PK X ks tk) (hall : (backToKw pos (keywordEach ks X.env)).all (·.1.isSome) = true) (hks : (backToKw pos (keywordEach ks X.env)).filterMap (·.1) = kn) (hdb : (x == ("__debug__" : Str)) = false)
    (hpl : ((backTo pos (starEach [] X.env)).any (·.1) || (backToKw pos (keywordEach ks X.env)).any (·.1.isNone)) = false) : PE X (.Call (.Name x p) [] ks pos) (tCallN 0 kn.length sp gV E tNil tk) := by
  refine ⟨fun pins s t H Q I h => wpAny_Call_Name_kw (ld_glob I hg hm ?_ hdb)⟩
  refine PySem.W.callWith_KW0 (h₀ := X.base) I.ok.mod.kin hk hall ?_ hpl
  refine thn (hkw.run pos pins s t H _ I h) fun ws s2 ⟨zs, H2, I2, rz, l1, l2, q2⟩ => ⟨I2.kIn, ?_⟩
  rw [hks]
  exact run_fnN (us := []) (vs := []) F hr hb hx I2 .nil rz l1 l2 q2
end
/-- a def called by keywords alone: kn the names written, perm: where each parameter's value comes from -/
structure FnK (P : Program) (w : World) (K : PySem.W.Frag) (mg : Str → Option Value) (base : Heap) (k : Nat) (x : Str) (ps kn : List Str) (gD : List PyData → List PyData) (sp : Sp) : Prop where
  ex : ∃ f fd g gV, mg x = some (.ref f) ∧ PySem.W.keepIn K (.ref f) = true ∧ FnOk P w K mg base CX0 k f fd ps sp ∧ KBn K fd ps 0 kn g gV ∧ ∀ H ds zs, ds.length = kn.length → Fts K H ds zs → Fts K H (gD ds) (gV [] zs)
section
variable {X : Cx} {e : Expr} {G : List Slot} {D : Lists} {d : PyData} {ds rs : List PyData} {ks : List Keyword} {pos p : Pos} {k n : Nat} {x : Str} {ps kn : List Str} {gD : List PyData → List PyData} {R : List PyData → Res → Prop}
theorem pd_callK (F : FnK X.prog X.w X.K X.mg X.base k x ps kn gD (spD X.K R)) (hr : Room n X.A) (hk : k ≤ n) (ha : PKd X G D ks ds) (h : R (gD ds) (.dat d)) (hl : ds.length = kn.length := by rfl) (hg : Gl X x := by rfl) (hall : (backToKw pos (keywordEach ks X.env)).all (·.1.isSome) = true := by rfl)
    (hks : (backToKw pos (keywordEach ks X.env)).filterMap (·.1) = kn := by rfl) (hdb : (x == ("__debug__" : Str)) = false := by decide) (hpl : ((backTo pos (starEach [] X.env)).any (·.1) || (backToKw pos (keywordEach ks X.env)).any (·.1.isNone)) = false := by rfl) : PD X G D (.Call (.Name x p) [] ks pos) d := by
  obtain ⟨f, fd, g, gV, hm, hkp, hF, hB, hV⟩ := F.ex
  exact PE.by_ (pe_kw0 hF (hr.mono hk) hg hm hkp hB pass0 ha hall hks hdb hpl) fun t H Q ⟨E, q⟩ => ⟨E, fun vs H1 e1 f => ⟨rfl, by rw [f.len, hl], gD ds, _, hV H1 ds vs hl f, h, fun v H2 e2 r => q v H2 (e1.trans e2) r⟩⟩
theorem pl_callK (F : FnK X.prog X.w X.K X.mg X.base k x ps kn gD (spD X.K R)) (hr : Room n X.A) (hk : k ≤ n) (ha : PKd X G D ks ds) (h : R (gD ds) (.lst rs)) (hl : ds.length = kn.length := by rfl) (hg : Gl X x := by rfl) (hall : (backToKw pos (keywordEach ks X.env)).all (·.1.isSome) = true := by rfl)
    (hks : (backToKw pos (keywordEach ks X.env)).filterMap (·.1) = kn := by rfl) (hdb : (x == ("__debug__" : Str)) = false := by decide) (hpl : ((backTo pos (starEach [] X.env)).any (·.1) || (backToKw pos (keywordEach ks X.env)).any (·.1.isNone)) = false := by rfl) : PL X G D (.Call (.Name x p) [] ks pos) rs := by
  obtain ⟨f, fd, g, gV, hm, hkp, hF, hB, hV⟩ := F.ex
  exact PE.by_ (pe_kw0 hF (hr.mono hk) hg hm hkp hB pass0 ha hall hks hdb hpl) fun t H Q ⟨E, q⟩ => ⟨E, fun vs H1 e1 f => ⟨rfl, by rw [f.len, hl], gD ds, _, hV H1 ds vs hl f, h, fun v H2 e2 r => by
    obtain ⟨a, us, rfl, h0, h1, h2⟩ := r
    exact q a us H2 (fresh_back e1 h0) (e1.trans e2) h1 h2⟩⟩
end
end Gk
end

section
set_option linter.all false
set_option maxRecDepth 100000
namespace Gk
open PySem PySem.Spec PyProof.Rows L2 Evl

/-! ## the module's defs -/
structure Tx (K : PySem.W.Frag) (mg : Str → Option Value) : Prop extends Txt K mg where
  fn : ∀ d, d ∈ fds → d.dv = .none → ∃ fd, FunD K d.name d.qual (defArgs d.st) (defBody d.st) (defScope d.st) [] [] d.f fd
  fnD : ∀ d, d ∈ fds → ∀ T vs, d.dv = .ref T → (T, vs) ∈ dfls → ∃ fd, FunD K d.name d.qual (defArgs d.st) (defBody d.st) (defScope d.st) vs [] d.f fd
  glo : ∀ (x : Str) (v : V), (some x, some v) ∈ gls → ∃ u, mg x = some u ∧ RelV v u
  tup : ∀ p ∈ tups, ∀ H, SqT K H p.1 p.2
section
variable {K : PySem.W.Frag} {mg : Str → Option Value}
theorem Tx.at_ {x : Str} {a : Addr} (T : Tx K mg) (h : (some x, some (V.ref a)) ∈ gls) : mg x = some (.ref a) := by
  obtain ⟨u, e, r⟩ := T.glo x _ h
  have e2 : u = .ref a := r
  rw [e, e2]
end
section
variable {X : Cx} {G : List Slot} {D : Lists} {pos : Pos}
theorem k_int {x : Str} {i : Int} (T : Tx X.K X.mg) (h : (some x, some (V.int i)) ∈ gls) (hg : Gl X x) (hd : (x == ("__debug__" : Str)) = false) : PD X G D (.Name x pos) (.int i) := by
  obtain ⟨u, e, r⟩ := T.glo x _ h
  exact pd_glob e r (fun _ => rfl) hg hd
theorem k_tup {x : Str} {a : Addr} {ns : List Int} (T : Tx X.K X.mg) (h : (some x, some (V.ref a)) ∈ gls) (ht : (a, ns.map V.int) ∈ tups) (hg : Gl X x) (hd : (x == ("__debug__" : Str)) = false) : PD X G D (.Name x pos) (.tuple (ns.map .int)) :=
  pd_glob (v := .ref a) (T.at_ h) rfl (fun H => ⟨a, _, rfl, T.tup _ ht H, Fts.of_ints ns⟩) hg hd
end

/-! ## parts -/
abbrev dP (q : Rat) : PyData := .tuple [.int q.num, .int q.den]
/-- not too great to be reckoned with -/
def Sm (q : Rat) : Prop := q.num.natAbs < 2 ^ 3000 ∧ q.den < 2 ^ 3000
/-- q is a whole number of D-th parts, at most M of them -/
def Gr (D M : Nat) (q : Rat) : Prop := ∃ n : Int, q * (D : Rat) = (n : Rat) ∧ n.natAbs ≤ M
theorem Gr.add {D M1 M2 : Nat} {a b : Rat} (ha : Gr D M1 a) (hb : Gr D M2 b) : Gr D (M1 + M2) (a + b) := by
  obtain ⟨n, e1, h1⟩ := ha
  obtain ⟨m, e2, h2⟩ := hb
  refine ⟨n + m, ?_, by omega⟩
  rw [Rat.add_mul, e1, e2, Rat.intCast_add]
theorem Gr.neg {D M : Nat} {a : Rat} (ha : Gr D M a) : Gr D M (-a) := by
  obtain ⟨n, e1, h1⟩ := ha
  refine ⟨-n, ?_, by omega⟩
  rw [Rat.neg_mul, e1, Rat.intCast_neg]
theorem Gr.sub {D M1 M2 : Nat} {a b : Rat} (ha : Gr D M1 a) (hb : Gr D M2 b) : Gr D (M1 + M2) (a - b) := by
  rw [Rat.sub_eq_add_neg]
  exact ha.add hb.neg
theorem Gr.mul {D1 D2 M1 M2 : Nat} {a b : Rat} (ha : Gr D1 M1 a) (hb : Gr D2 M2 b) : Gr (D1 * D2) (M1 * M2) (a * b) := by
  obtain ⟨n, e1, h1⟩ := ha
  obtain ⟨m, e2, h2⟩ := hb
  refine ⟨n * m, ?_, ?_⟩
  · rw [Rat.intCast_mul, ← e1, ← e2, Rat.natCast_mul]
    grind
  · rw [Int.natAbs_mul]
    exact Nat.mul_le_mul h1 h2
theorem Gr.mono {D M M' : Nat} {a : Rat} (h : Gr D M a) (hm : M ≤ M') : Gr D M' a := by
  obtain ⟨n, e, h1⟩ := h
  exact ⟨n, e, Nat.le_trans h1 hm⟩
theorem Gr.scale {D M : Nat} {a : Rat} (k : Nat) (h : Gr D M a) : Gr (D * k) (M * k) a := by
  obtain ⟨n, e, h1⟩ := h
  refine ⟨n * k, ?_, ?_⟩
  · rw [Rat.natCast_mul, Rat.intCast_mul, ← e]
    have : ((k : Int) : Rat) = (k : Rat) := rfl
    grind
  · rw [Int.natAbs_mul]
    exact Nat.mul_le_mul h1 (Nat.le_refl _)
theorem Gr.zero {D M : Nat} : Gr D M 0 := ⟨0, by grind, by omega⟩
theorem Gr.eq {D M : Nat} {a : Rat} (h : Gr D M a) (hD : D ≠ 0) : ∃ n : Int, a = mkRat n D ∧ n.natAbs ≤ M := by
  obtain ⟨n, e, h1⟩ := h
  refine ⟨n, ?_, h1⟩
  rw [Rat.mkRat_eq_div, ← e, Rat.mul_div_cancel]
  intro z
  exact hD (Rat.natCast_eq_zero_iff.mp z)
theorem Gr.sm {D M : Nat} {a : Rat} (h : Gr D M a) (hD : D ≠ 0) (h1 : D < 2 ^ 3000) (h2 : M < 2 ^ 3000) : Sm a := by
  obtain ⟨n, rfl, hn⟩ := h.eq hD
  refine ⟨?_, ?_⟩
  · rw [Rat.num_mkRat, if_neg hD, Int.natAbs_ediv_of_dvd (Int.dvd_trans (Int.natCast_dvd_natCast.mpr (Nat.gcd_dvd_right D n.natAbs)) (Int.natAbs_dvd.mpr (Int.dvd_refl _)))]
    exact Nat.lt_of_le_of_lt (Nat.div_le_self _ _) (Nat.lt_of_le_of_lt hn h2)
  · rw [Rat.den_mkRat, if_neg hD]
    exact Nat.lt_of_le_of_lt (Nat.div_le_self _ _) h1
theorem Gr.of {D : Nat} {a : Int} {b c : Nat} (hb : b ≠ 0) (h : b * c = D) : Gr D (a.natAbs * c) (Rat.divInt a b) := by
  refine ⟨a * c, ?_, ?_⟩
  · rw [Rat.divInt_ofNat, Rat.mkRat_eq_div, ← h, Rat.natCast_mul, Rat.intCast_mul]
    have hb' : (b : Rat) ≠ 0 := fun z => hb (Rat.natCast_eq_zero_iff.mp z)
    have hc : ((c : Int) : Rat) = (c : Rat) := rfl
    rw [hc, Rat.div_def, ← Rat.mul_assoc, Rat.mul_assoc (a : Rat), Rat.inv_mul_cancel _ hb', Rat.mul_one]
  · rw [Int.natAbs_mul, Int.natAbs_natCast]
    exact Nat.le_refl _
/-! ### how the numbers go -/
theorem sm_mul {a b : Int} {m n : Nat} (ha : a.natAbs < 2 ^ m) (hb : b.natAbs < 2 ^ n) (h0 : 0 < m := by decide) (h1 : 0 < n := by decide) (h : m + n ≤ 1000000 := by decide) : CMulW a b := wide_mul ha hb h0 h1 h
theorem gcd_fac {t b : Int} (hb : 0 < b) : t / (Int.gcd t b : Int) = (Rat.divInt t b).num ∧ b / (Int.gcd t b : Int) = ((Rat.divInt t b).den : Int) := by
  have e : (b.gcd t : Int) = (Int.gcd t b : Int) := by rw [Int.gcd_comm]
  refine ⟨?_, ?_⟩
  · rw [Rat.num_divInt, Int.sign_eq_one_of_pos hb, Int.one_mul, e]
  · rw [Rat.den_divInt, if_neg (by omega), Int.natCast_ediv, e]
    congr 1
    omega
theorem divInt_add {a b c d : Int} (hb : 0 < b) (hd : 0 < d) : Rat.divInt (a * d + c * b) (b * d) = Rat.divInt a b + Rat.divInt c d := (Rat.divInt_add_divInt a c (by omega) (by omega)).symm
theorem divInt_sub {a b c d : Int} (hb : 0 < b) (hd : 0 < d) : Rat.divInt (a * d - c * b) (b * d) = Rat.divInt a b - Rat.divInt c d := (Rat.divInt_sub_divInt a c (by omega) (by omega)).symm
end Gk
end

section
set_option linter.all false
set_option maxRecDepth 100000
namespace Gk
open PySem PySem.Spec PyProof.Rows L2 Evl
section
variable {P : Program} {w : World} {K : PySem.W.Frag} {mg : Str → Option Value} {base : Heap}
/-- the parts of a Fn, all but its body -/
theorem Fn.mk_ {k : Nat} {d : Fd} {ps : List Str} {sp : Sp} (T : Tx K mg) (hd : d ∈ fds) (h0 : d.dv = .none) (hg : (some d.name, some (V.ref d.f)) ∈ gls)
    (hb : ∀ (kV doc pm : Value) (an : Option Addr) (cdv ct : Value) (us : List Value), us.length = ps.length → bindArgs (PySem.W.fnOf d.name d.qual (defArgs d.st) (defBody d.st) (defScope d.st) .none kV doc pm an cdv ct) ⟨us, []⟩ = pure (ps.zip us))
    (F : ∀ fd, FunD K d.name d.qual (defArgs d.st) (defBody d.st) (defScope d.st) [] [] d.f fd → FnOk P w K mg base CX0 k d.f fd ps sp) : Fn P w K mg base k d.name ps [] sp := by
  obtain ⟨fd, f⟩ := T.fn d hd h0
  exact ⟨d.f, fd, [], T.at_ hg, f.kp, F fd f, f.bindsN hb, .nil⟩

/-! ### is_whole, is_from_to -/
inductive R_is_whole : List PyData → Res → Prop
  | mk {d : PyData} : R_is_whole [d] (.dat (.bool (isInt d && !isBool d)))
theorem sc_is_whole : FnScope ["thing"] ["thing"] (defScope s_is_whole) := ⟨rfl, rfl, rfl, by decide +kernel, rfl, by decide +kernel, by decide +kernel⟩
theorem fn_is_whole (T : Tx K mg) : Fn P w K mg base 1 "is_whole" ["thing"] [] (spD K R_is_whole) := by
  refine Fn.mk_ T m_is_whole rfl g_is_whole (fun _ _ _ _ _ _ us hl => match us, hl with | [_], _ => rfl) fun fd F => fn_body F sc_is_whole (by rintro _ _ ⟨⟩; rfl) fun cdv A outer s H E hr ds r hR => ?_
  cases hR with
  | mk =>
    exact (sds_cons (sd_ret (pd_and (pd_isI T.toTxt (pd_var 0)) fun h1 => (pd_one (pd_not (pd_isB T.toTxt (pd_var 0))))) rfl))
def inB (d : PyData) (i j : Int) : Bool := match d with
  | .int n => decide (i ≤ n) && decide (n ≤ j)
  | _ => false
inductive R_is_from_to : List PyData → Res → Prop
  | mk {d : PyData} {i j : Int} : R_is_from_to [d, .int i, .int j] (.dat (.bool (inB d i j)))
theorem sc_is_from_to : FnScope ["thing", "least", "most"] ["thing", "least", "most"] (defScope s_is_from_to) := ⟨rfl, rfl, rfl, by decide +kernel, rfl, by decide +kernel, by decide +kernel⟩
theorem fn_is_from_to (T : Tx K mg) : Fn P w K mg base 2 "is_from_to" ["thing", "least", "most"] [] (spD K R_is_from_to) := by
  refine Fn.mk_ T m_is_from_to rfl g_is_from_to (fun _ _ _ _ _ _ us hl => match us, hl with | [_, _, _], _ => rfl) fun fd F => fn_body F sc_is_from_to (by rintro _ _ ⟨⟩; rfl) fun cdv A outer s H E hr ds r hR => ?_
  cases hR with
  | @mk d i j =>
    cases d with
    | int n => exact (sds_cons (sd_ret (pd_and (pd_call (fn_is_whole T) hr (by decide) (pds_cons (pd_var 0) pds_nil) .mk) fun h1 => (pd_one (pd_chain op_le op_le (pd_var 1) (pd_var 0) (pd_var 2)))) rfl))
    | none => exact (sds_cons (sd_ret (pd_and (q := false) (pd_call (fn_is_whole T) hr (by decide) (pds_cons (pd_var 0) pds_nil) .mk) fun h1 => by cases h1) rfl))
    | bool _ => exact (sds_cons (sd_ret (pd_and (q := false) (pd_call (fn_is_whole T) hr (by decide) (pds_cons (pd_var 0) pds_nil) .mk) fun h1 => by cases h1) rfl))
    | str _ => exact (sds_cons (sd_ret (pd_and (q := false) (pd_call (fn_is_whole T) hr (by decide) (pds_cons (pd_var 0) pds_nil) .mk) fun h1 => by cases h1) rfl))
    | tuple _ => exact (sds_cons (sd_ret (pd_and (q := false) (pd_call (fn_is_whole T) hr (by decide) (pds_cons (pd_var 0) pds_nil) .mk) fun h1 => by cases h1) rfl))
    | list _ => exact (sds_cons (sd_ret (pd_and (q := false) (pd_call (fn_is_whole T) hr (by decide) (pds_cons (pd_var 0) pds_nil) .mk) fun h1 => by cases h1) rfl))
    | dict _ => exact (sds_cons (sd_ret (pd_and (q := false) (pd_call (fn_is_whole T) hr (by decide) (pds_cons (pd_var 0) pds_nil) .mk) fun h1 => by cases h1) rfl))

/-! ### shared, lowest -/
inductive R_shared : List PyData → Res → Prop
  | mk {a b : Int} (hb : 0 < b) : R_shared [.int a, .int b] (.dat (.int (Int.gcd a b)))
theorem sc_shared : FnScope ["one", "other"] ["one", "other"] (defScope s_shared) := ⟨rfl, rfl, rfl, by decide +kernel, rfl, by decide +kernel, by decide +kernel⟩
theorem fn_shared (T : Tx K mg) : Fn P w K mg base 1 "shared" ["one", "other"] [] (spD K R_shared) := by
  refine Fn.mk_ T m_shared rfl g_shared (fun _ _ _ _ _ _ us hl => match us, hl with | [_, _], _ => rfl) fun fd F => fn_body F sc_shared (by rintro _ _ ⟨⟩; rfl) fun cdv A outer s H E hr ds r hR => ?_
  cases hR with
  | @mk a b hb =>
    refine (sds_cons (sd_asg 0 sc_shared.nd (pd_abs (pd_var 0) T.abs) (sds_cons (sd_while (fun m M G D => ∃ x y : Nat, M = [] ∧ D = [] ∧ G = [.dat (.int x), .dat (.int y)] ∧ m = x ∧ Nat.gcd x y = Int.gcd a b) a.natAbs
      ⟨a.natAbs, b.natAbs, rfl, rfl, ?_, rfl, rfl⟩ (fun m M G D hP => ?_)))))
    · have e : (b.natAbs : Int) = b := by omega
      rw [e] <;> rfl
    · obtain ⟨x, y, rfl, rfl, rfl, rfl, hg⟩ := hP
      refine ⟨_, (pq_cmp (cd_gt (pd_var 0) pd_int)), fun h => ?_, fun h => ?_⟩
      · have hx : 0 < m := by simpa using h
        refine (sds_cons (sd_par 0 1 sc_shared.nd (pd_mod (pd_var 1) (pd_var 0) (by omega)) (pd_var 0) (sds_nil ⟨y % m, Nat.mod_lt _ hx, y % m, m, rfl, rfl, rfl, rfl, ?_⟩)))
        rw [← hg, Nat.gcd_rec m y]
      · have hx : m = 0 := by
          have := of_decide_eq_false h
          omega
        subst hx
        refine (sds_cons (sd_ret (pd_var 1) ?_))
        rw [← hg, Nat.gcd_zero_left]
inductive R_lowest : List PyData → Res → Prop
  | mk {t b : Int} (hb : 0 < b) (hs : b.natAbs < 2 ^ 9000) : R_lowest [.int t, .int b] (.dat (dP (Rat.divInt t b)))
theorem sc_lowest : FnScope ["top", "bottom", "factor"] ["top", "bottom"] (defScope s_lowest) := ⟨rfl, rfl, rfl, by decide +kernel, rfl, by decide +kernel, by decide +kernel⟩
theorem gcd_div {t b : Int} (hb : 0 < b) (hs : b.natAbs < 2 ^ 9000) (x : Int) : CDivW x (Int.gcd t b : Int) := by
  have h0 : 0 < Int.gcd t b := Int.gcd_pos_of_ne_zero_right t (by omega)
  refine wide_div (b := 9000) (by omega) ?_ (by decide) (by decide)
  have h1 : Int.gcd t b ≤ b.natAbs := Int.gcd_le_natAbs_right t (by omega)
  rw [Int.natAbs_natCast]
  omega
theorem fn_lowest (T : Tx K mg) : Fn P w K mg base 2 "lowest" ["top", "bottom"] [] (spD K R_lowest) := by
  refine Fn.mk_ T m_lowest rfl g_lowest (fun _ _ _ _ _ _ us hl => match us, hl with | [_, _], _ => rfl) fun fd F => fn_body F sc_lowest (by rintro _ _ ⟨⟩; rfl) fun cdv A outer s H E hr ds r hR => ?_
  cases hR with
  | @mk t b hb hs =>
    refine (sds_cons (sd_if (pq_cmp (cd_lt (pd_var 1) pd_int)) (fun h1 => ?_) (fun h2 => (sds_nil (sds_cons (sd_asg 2 sc_lowest.nd (pd_call (fn_shared T) hr (by decide) (pds_cons (pd_var 0) (pds_cons (pd_var 1) pds_nil)) (.mk hb))
      (sds_cons (sd_ret (pd_tup (pds_cons (pd_fdiv (pd_var 0) (pd_var 2) (gcd_div hb hs _)) (pds_cons (pd_fdiv (pd_var 1) (pd_var 2) (gcd_div hb hs _)) pds_nil))) ?_))))))))
    · have := of_decide_eq_true h1
      omega
    · show Res.dat (.tuple [.int (t / (Int.gcd t b : Int)), .int (b / (Int.gcd t b : Int))]) = _
      rw [(gcd_fac hb).1, (gcd_fac hb).2]
end
end Gk
end

section
set_option linter.all false
set_option maxRecDepth 100000
namespace Gk
open PySem PySem.Spec PyProof.Rows L2 Evl
/-- a top and a bottom -/
structure Pr (a b : Int) : Prop where
  pos : 0 < b
  sa : a.natAbs < 2 ^ 3000
  sb : b.natAbs < 2 ^ 3000
theorem Sm.pr {q : Rat} (h : Sm q) : Pr q.num q.den := ⟨Int.natCast_pos.mpr q.den_pos, h.1, by rw [Int.natAbs_natCast]; exact h.2⟩
section
variable {a b c d : Int}
theorem Pr.ad (h : Pr a b) (k : Pr c d) : CMulW a d := sm_mul h.sa k.sb
theorem Pr.bd (h : Pr a b) (k : Pr c d) : CMulW b d := sm_mul h.sb k.sb
theorem Pr.ac (h : Pr a b) (k : Pr c d) : CMulW a c := sm_mul h.sa k.sa
theorem Pr.bpos (h : Pr a b) (k : Pr c d) : 0 < b * d := Int.mul_pos h.pos k.pos
set_option exponentiation.threshold 10000 in
theorem Pr.bsz (h : Pr a b) (k : Pr c d) : (b * d).natAbs < 2 ^ 9000 := by
  have := wide_lt h.sb k.sb
  exact Nat.lt_of_lt_of_le this (Nat.pow_le_pow_right (by decide) (by decide))
end
theorem gcd_one (q : Rat) : Int.gcd q.num q.den = 1 := by
  have h := q.reduced
  unfold Nat.Coprime at h
  show Nat.gcd q.num.natAbs ((q.den : Int)).natAbs = 1
  rw [Int.natAbs_natCast, h]
section
variable {P : Program} {w : World} {K : PySem.W.Frag} {mg : Str → Option Value} {base : Heap}
def dO : Option Rat → PyData
  | none => .none
  | some q => dP q
/-! ### is_part, need_part -/
inductive R_is_part : List PyData → Res → Prop
  | mk {q : Rat} : R_is_part [dP q] (.dat (.bool true))
  | non : R_is_part [.none] (.dat (.bool false))
theorem sc_is_part : FnScope ["thing"] ["thing"] (defScope s_is_part) := ⟨rfl, rfl, rfl, by decide +kernel, rfl, by decide +kernel, by decide +kernel⟩
theorem fn_is_part (T : Tx K mg) : Fn P w K mg base 2 "is_part" ["thing"] [] (spD K R_is_part) := by
  refine Fn.mk_ T m_is_part rfl g_is_part (fun _ _ _ _ _ _ us hl => match us, hl with | [_], _ => rfl) fun fd F => fn_body F sc_is_part (by rintro _ _ ⟨⟩ <;> rfl) fun cdv A outer s H E hr ds r hR => ?_
  cases hR with
  | @mk q =>
    refine sds_cons (sd_if (wq_q (wq_or (pq_not (pq_val (pd_isT T.toTxt (pd_var 0)))) fun h1 => (wq_or (pq_cmp (cd_ne' hr (pd_lenT (pd_var 0) T.len) pd_int)) fun h2 => (wq_or (pq_not (pq_val (pd_call (fn_is_whole T) hr (by decide) (pds_cons (pd_ix (pd_var 0) pd_int) pds_nil) .mk))) fun h3 => (wq_or1 (pq_not (pq_val (pd_call (fn_is_whole T) hr (by decide) (pds_cons (pd_ix (pd_var 0) pd_int) pds_nil) .mk))))))))
      (fun h4 => by cases h4) (fun h5 => sds_nil ?_))
    refine sds_cons (sd_ret (pd_and (pd_cmp (cd_gt (pd_ix (pd_var 0) pd_int) pd_int)) fun h6 => (pd_one (pd_cmp (cd_eq' hr (pd_call (fn_shared T) hr (by decide) (pds_cons (pd_ix (pd_var 0) pd_int) (pds_cons (pd_ix (pd_var 0) pd_int) pds_nil)) (.mk (Int.natCast_pos.mpr q.den_pos))) pd_int)))) ?_)
    rw [gcd_one, decide_eq_true (Int.natCast_pos.mpr q.den_pos)] <;> rfl
  | non =>
    exact (sds_cons (sd_if (wq_q (wq_or (q := true) (pq_not (pq_val (pd_isT T.toTxt (pd_var 0)))) fun h1 => by cases h1)) (fun h4 => (sds_cons (sd_ret pd_bl rfl))) (fun h5 => by cases h5)))
inductive R_need_part : List PyData → Res → Prop
  | mk {q : Rat} : R_need_part [dP q] (.dat .none)
theorem sc_need_part : FnScope ["thing"] ["thing"] (defScope s_need_part) := ⟨rfl, rfl, rfl, by decide +kernel, rfl, by decide +kernel, by decide +kernel⟩
theorem fn_need_part (T : Tx K mg) : Fn P w K mg base 3 "need_part" ["thing"] [] (spD K R_need_part) := by
  refine Fn.mk_ T m_need_part rfl g_need_part (fun _ _ _ _ _ _ us hl => match us, hl with | [_], _ => rfl) fun fd F => fn_body F sc_need_part (by rintro _ _ ⟨⟩; rfl) fun cdv A outer s H E hr ds r hR => ?_
  cases hR with
  | mk => exact (sds_cons (sd_if (pq_not (pq_val (pd_call (fn_is_part T) hr (by decide) (pds_cons (pd_var 0) pds_nil) .mk))) (fun h1 => by cases h1) (fun h2 => (sds_nil (sds_nil rfl)))))
/-! ### plus, minus, product, below, turned -/
inductive R_plus : List PyData → Res → Prop
  | gen {a b c d : Int} (h : Pr a b) (k : Pr c d) : R_plus [.tuple [.int a, .int b], .tuple [.int c, .int d]] (.dat (dP (Rat.divInt a b + Rat.divInt c d)))
theorem R_plus.mk {p q : Rat} (h : Sm p) (k : Sm q) : R_plus [dP p, dP q] (.dat (dP (p + q))) := by
  have := R_plus.gen h.pr k.pr
  rw [Rat.num_divInt_den, Rat.num_divInt_den] at this
  exact this
theorem sc_plus : FnScope ["one", "other"] ["one", "other"] (defScope s_plus) := ⟨rfl, rfl, rfl, by decide +kernel, rfl, by decide +kernel, by decide +kernel⟩
theorem fn_plus (T : Tx K mg) : Fn P w K mg base 3 "plus" ["one", "other"] [] (spD K R_plus) := by
  refine Fn.mk_ T m_plus rfl g_plus (fun _ _ _ _ _ _ us hl => match us, hl with | [_, _], _ => rfl) fun fd F => fn_body F sc_plus (by rintro _ _ ⟨⟩; rfl) fun cdv A outer s H E hr ds r hR => ?_
  cases hR with
  | gen h k =>
    rw [← divInt_add h.pos k.pos]
    exact (sds_cons (sd_ret (pd_call (fn_lowest T) hr (by decide) (pds_cons (pd_add (pd_mul (pd_ix (pd_var 0) pd_int) (pd_ix (pd_var 1) pd_int) (h.ad k)) (pd_mul (pd_ix (pd_var 1) pd_int) (pd_ix (pd_var 0) pd_int) (k.ad h))) (pds_cons (pd_mul (pd_ix (pd_var 0) pd_int) (pd_ix (pd_var 1) pd_int) (h.bd k)) pds_nil)) (.mk (h.bpos k) (h.bsz k))) rfl))
inductive R_minus : List PyData → Res → Prop
  | gen {a b c d : Int} (h : Pr a b) (k : Pr c d) : R_minus [.tuple [.int a, .int b], .tuple [.int c, .int d]] (.dat (dP (Rat.divInt a b - Rat.divInt c d)))
theorem R_minus.mk {p q : Rat} (h : Sm p) (k : Sm q) : R_minus [dP p, dP q] (.dat (dP (p - q))) := by
  have := R_minus.gen h.pr k.pr
  rw [Rat.num_divInt_den, Rat.num_divInt_den] at this
  exact this
theorem sc_minus : FnScope ["one", "other"] ["one", "other"] (defScope s_minus) := ⟨rfl, rfl, rfl, by decide +kernel, rfl, by decide +kernel, by decide +kernel⟩
theorem fn_minus (T : Tx K mg) : Fn P w K mg base 3 "minus" ["one", "other"] [] (spD K R_minus) := by
  refine Fn.mk_ T m_minus rfl g_minus (fun _ _ _ _ _ _ us hl => match us, hl with | [_, _], _ => rfl) fun fd F => fn_body F sc_minus (by rintro _ _ ⟨⟩; rfl) fun cdv A outer s H E hr ds r hR => ?_
  cases hR with
  | gen h k =>
    rw [← divInt_sub h.pos k.pos]
    exact (sds_cons (sd_ret (pd_call (fn_lowest T) hr (by decide) (pds_cons (pd_sub (pd_mul (pd_ix (pd_var 0) pd_int) (pd_ix (pd_var 1) pd_int) (h.ad k)) (pd_mul (pd_ix (pd_var 1) pd_int) (pd_ix (pd_var 0) pd_int) (k.ad h))) (pds_cons (pd_mul (pd_ix (pd_var 0) pd_int) (pd_ix (pd_var 1) pd_int) (h.bd k)) pds_nil)) (.mk (h.bpos k) (h.bsz k))) rfl))
inductive R_product : List PyData → Res → Prop
  | gen {a b c d : Int} (h : Pr a b) (k : Pr c d) : R_product [.tuple [.int a, .int b], .tuple [.int c, .int d]] (.dat (dP (Rat.divInt a b * Rat.divInt c d)))
theorem R_product.mk {p q : Rat} (h : Sm p) (k : Sm q) : R_product [dP p, dP q] (.dat (dP (p * q))) := by
  have := R_product.gen h.pr k.pr
  rw [Rat.num_divInt_den, Rat.num_divInt_den] at this
  exact this
theorem sc_product : FnScope ["one", "other"] ["one", "other"] (defScope s_product) := ⟨rfl, rfl, rfl, by decide +kernel, rfl, by decide +kernel, by decide +kernel⟩
theorem fn_product (T : Tx K mg) : Fn P w K mg base 3 "product" ["one", "other"] [] (spD K R_product) := by
  refine Fn.mk_ T m_product rfl g_product (fun _ _ _ _ _ _ us hl => match us, hl with | [_, _], _ => rfl) fun fd F => fn_body F sc_product (by rintro _ _ ⟨⟩; rfl) fun cdv A outer s H E hr ds r hR => ?_
  cases hR with
  | gen h k =>
    rw [Rat.divInt_mul_divInt]
    exact (sds_cons (sd_ret (pd_call (fn_lowest T) hr (by decide) (pds_cons (pd_mul (pd_ix (pd_var 0) pd_int) (pd_ix (pd_var 1) pd_int) (h.ac k)) (pds_cons (pd_mul (pd_ix (pd_var 0) pd_int) (pd_ix (pd_var 1) pd_int) (h.bd k)) pds_nil)) (.mk (h.bpos k) (h.bsz k))) rfl))
inductive R_below : List PyData → Res → Prop
  | mk {p q : Rat} (h : Sm p) (k : Sm q) : R_below [dP p, dP q] (.dat (.bool (decide (p < q))))
theorem sc_below : FnScope ["one", "other"] ["one", "other"] (defScope s_below) := ⟨rfl, rfl, rfl, by decide +kernel, rfl, by decide +kernel, by decide +kernel⟩
theorem fn_below (T : Tx K mg) : Fn P w K mg base 1 "below" ["one", "other"] [] (spD K R_below) := by
  refine Fn.mk_ T m_below rfl g_below (fun _ _ _ _ _ _ us hl => match us, hl with | [_, _], _ => rfl) fun fd F => fn_body F sc_below (by rintro _ _ ⟨⟩; rfl) fun cdv A outer s H E hr ds r hR => ?_
  cases hR with
  | @mk p q h k =>
    refine (sds_cons (sd_ret (pd_cmp (cd_lt (pd_mul (pd_ix (pd_var 0) pd_int) (pd_ix (pd_var 1) pd_int) (h.pr.ad k.pr)) (pd_mul (pd_ix (pd_var 1) pd_int) (pd_ix (pd_var 0) pd_int) (k.pr.ad h.pr)))) ?_))
    rw [decide_eq_decide.mpr (Rat.lt_iff p q).symm]
inductive R_turned : List PyData → Res → Prop
  | mk {p : Rat} : R_turned [dP p] (.dat (dP (-p)))
theorem sc_turned : FnScope ["one"] ["one"] (defScope s_turned) := ⟨rfl, rfl, rfl, by decide +kernel, rfl, by decide +kernel, by decide +kernel⟩
theorem fn_turned (T : Tx K mg) : Fn P w K mg base 1 "turned" ["one"] [] (spD K R_turned) := by
  refine Fn.mk_ T m_turned rfl g_turned (fun _ _ _ _ _ _ us hl => match us, hl with | [_], _ => rfl) fun fd F => fn_body F sc_turned (by rintro _ _ ⟨⟩; rfl) fun cdv A outer s H E hr ds r hR => ?_
  cases hR with
  | @mk p =>
    refine (sds_cons (sd_ret (pd_tup (pds_cons (pd_sub pd_int (pd_ix (pd_var 0) pd_int)) (pds_cons (pd_ix (pd_var 0) pd_int) pds_nil))) ?_))
    rw [show dP (-p) = .tuple [.int (-p.num), .int p.den] by rw [← Rat.neg_num, ← Rat.neg_den], Int.zero_sub]
/-! ### part_of, added, less, times, is_less -/
inductive R_part_of : List PyData → Res → Prop
  | mk {a b : Int} (hb : 0 < b) (hs : b.natAbs < 2 ^ 9000) : R_part_of [.int a, .int b] (.dat (dP (Rat.divInt a b)))
theorem sc_part_of : FnScope ["top", "bottom"] ["top", "bottom"] (defScope s_part_of) := ⟨rfl, rfl, rfl, by decide +kernel, rfl, by decide +kernel, by decide +kernel⟩
theorem ok_part_of (T : Tx K mg) {fd : FuncData} (F : FunD K d_part_of.name d_part_of.qual (defArgs d_part_of.st) (defBody d_part_of.st) (defScope d_part_of.st) [] [] d_part_of.f fd) : FnOk P w K mg base CX0 3 d_part_of.f fd ["top", "bottom"] (spD K R_part_of) := by
  refine fn_body F sc_part_of (by rintro _ _ ⟨⟩; rfl) fun cdv A outer s H E hr ds r hR => ?_
  cases hR with
  | @mk a b hb hs =>
    refine (sds_cons (sd_if (wq_q (wq_or (pq_not (pq_val (pd_call (fn_is_whole T) hr (by decide) (pds_cons (pd_var 0) pds_nil) .mk))) fun h1 => (wq_or (pq_not (pq_val (pd_call (fn_is_whole T) hr (by decide) (pds_cons (pd_var 1) pds_nil) .mk))) fun h2 => (wq_or1 (pq_cmp (cd_eq' hr (pd_var 1) pd_int))))))
      (fun h3 => ?_) (fun h4 => (sds_nil (sds_cons (sd_ret (pd_call (fn_lowest T) hr (by decide) (pds_cons (pd_var 0) (pds_cons (pd_var 1) pds_nil)) (.mk hb hs)) rfl))))))
    have h5 : (b == 0) = true := h3
    have := beq_iff_eq.mp h5
    omega
end
end Gk
end

section
set_option linter.all false
set_option maxRecDepth 100000
namespace Gk
open PySem PySem.Spec PyProof.Rows L2 Evl
section
variable {X : Cx} {tg iter elt : Expr} {ifs : List Expr} {G : List Slot} {D : Lists} {scope : Scope} {own : List (Str × Nat)} {is : List Nat} {α : Type}
theorem lc_map (enc : α → PyData) (xs : List α) (g : α → PyData) (hs : ∀ x ∈ xs, Turn1 X G D elt tg [] scope own is enc (fun _ => true) g x) (hl : xs.length ≤ 1000) (hi : PId X G D tg iter (xs.map enc)) (his : ∀ i ∈ is, i ∈ own.map (·.2) := by decide) : LC X G D elt tg iter [] scope own (xs.map g) := by
  have h := lc_of enc xs (fun _ => true) g hs his hl hi
  rw [List.filter_eq_self.mpr fun _ _ => rfl] at h
  exact h
theorem lc_mapL (enc : α → PyData) (xs : List α) (g : α → PyData) (hs : ∀ x ∈ xs, Turn1 X G D elt tg [] scope own is enc (fun _ => true) g x) (hl : xs.length ≤ 1000) (hi : PR X G D iter (xs.map enc)) (his : ∀ i ∈ is, i ∈ own.map (·.2) := by decide) : LC X G D elt tg iter [] scope own (xs.map g) := by
  have h := lc_ofL enc xs (fun _ => true) g hs his hl hi
  rw [List.filter_eq_self.mpr fun _ _ => rfl] at h
  exact h
theorem lc_bool (enc : α → PyData) (xs : List α) (q : α → Bool) (hs : ∀ x ∈ xs, Turn1 X G D elt tg [] scope own is enc (fun _ => true) (fun x => .bool (q x)) x) (hl : xs.length ≤ 1000) (hi : PId X G D tg iter (xs.map enc)) (his : ∀ i ∈ is, i ∈ own.map (·.2) := by decide) : LC X G D elt tg iter [] scope own ((xs.map q).map .bool) := by
  have h := lc_map enc xs (fun x => .bool (q x)) hs hl hi his
  rw [List.map_map]
  exact h
end
section
variable {P : Program} {w : World} {K : PySem.W.Frag} {mg : Str → Option Value} {base : Heap}
theorem Fts.rev {H : Hp} : ∀ {ds : List PyData} {vs : List V}, Fts K H ds vs → Fts K H ds.reverse vs.reverse
  | [], vs, h => by
    have e : vs = [] := h
    subst e
    rfl
  | d :: ds, _, ⟨v, vs, e, q, r⟩ => by
    subst e
    rw [List.reverse_cons, List.reverse_cons]
    exact (Fts.rev r).app (Fts.one q)
/-- called by keywords, in the reverse order -/
theorem FnK.mk_ {k : Nat} {d : Fd} {ps kn : List Str} {sp : Sp} (T : Tx K mg) (hd : d ∈ fds) (h0 : d.dv = .none) (hg : (some d.name, some (V.ref d.f)) ∈ gls)
    (hb : ∀ (kV doc pm : Value) (an : Option Addr) (cdv ct : Value) (ws : List Value), ws.length = kn.length → bindArgs (PySem.W.fnOf d.name d.qual (defArgs d.st) (defBody d.st) (defScope d.st) .none kV doc pm an cdv ct) ⟨[], kn.zip ws⟩ = pure (ps.zip ws.reverse))
    (F : ∀ fd, FunD K d.name d.qual (defArgs d.st) (defBody d.st) (defScope d.st) [] [] d.f fd → FnOk P w K mg base CX0 k d.f fd ps sp) : FnK P w K mg base k d.name ps kn List.reverse sp := by
  obtain ⟨fd, f⟩ := T.fn d hd h0
  refine ⟨d.f, fd, fun _ ws => ws.reverse, fun _ zs => zs.reverse, T.at_ hg, f.kp, F fd f, ⟨fun s us ws X hu hw => ?_, fun r1 r2 => r2.reverse⟩, fun H ds zs _ h => h.rev⟩
  obtain ⟨oc, od, dV, kV, doc, pm, an, cdv, ct, osl, rfl, lk, hcd, hD, hK⟩ := f.ex
  rcases hD with ⟨_, rfl⟩ | ⟨e, _⟩
  · have eu : us = [] := List.length_eq_zero_iff.mp hu
    subst eu
    exact .of_eq (hb kV doc pm an cdv ct ws hw)
  · exact absurd rfl e
/-- the same of a def with defaults; those that lack stand behind -/
theorem FnK.mkD {k : Nat} {d : Fd} {ps kn : List Str} {sp : Sp} {vs : List V} {Ta : Addr} (ex : List PyData) (j : Nat) (T : Tx K mg) (hd : d ∈ fds) (h0 : d.dv = .ref Ta) (ht : (Ta, vs) ∈ dfls) (hv : vs ≠ []) (hg : (some d.name, some (V.ref d.f)) ∈ gls)
    (hb : ∀ (Tb : Addr) (kV doc pm : Value) (an : Option Addr) (cdv ct : Value) (us its ws : List Value), us.length = 0 → its.length = vs.length → ws.length = kn.length →
      ∃ kk, bindArgs (PySem.W.fnOf d.name d.qual (defArgs d.st) (defBody d.st) (defScope d.st) (.ref Tb) kV doc pm an cdv ct) ⟨us, kn.zip ws⟩ = seqItems? (.ref Tb) >>= kk ∧ kk (some its.toArray) = pure (ps.zip (ws.reverse ++ its.drop j)))
    (hx : ∀ H, Fts K H ex (vs.drop j)) (F : ∀ fd, FunD K d.name d.qual (defArgs d.st) (defBody d.st) (defScope d.st) vs [] d.f fd → FnOk P w K mg base CX0 k d.f fd ps sp) : FnK P w K mg base k d.name ps kn (fun ds => ds.reverse ++ ex) sp := by
  obtain ⟨fd, f⟩ := T.fnD d hd Ta vs h0 ht
  obtain ⟨its, KB⟩ := f.kbindsD (ps := ps) 0 kn (fun us its ws => ws.reverse ++ its.drop j) hv (fun r1 r2 r3 => r3.reverse.append (r2.drop j)) hb
  exact ⟨d.f, fd, _, _, T.at_ hg, f.kp, F fd f, KB, fun H ds zs _ h => h.rev.app (hx H)⟩
/-- a def with defaults, called by places; those that lack: from the j-th default on -/
theorem Fn.mkD {k : Nat} {d : Fd} {ps : List Str} {sp : Sp} {vs : List V} {Ta : Addr} (n j : Nat) (T : Tx K mg) (hd : d ∈ fds) (h0 : d.dv = .ref Ta) (ht : (Ta, vs) ∈ dfls) (hv : vs ≠ []) (hn : n + (vs.length - j) = ps.length) (hg : (some d.name, some (V.ref d.f)) ∈ gls)
    (hb : ∀ (Tb : Addr) (kV doc pm : Value) (an : Option Addr) (cdv ct : Value) (us its : List Value), us.length = n → its.length = vs.length →
      ∃ kk, bindArgs (PySem.W.fnOf d.name d.qual (defArgs d.st) (defBody d.st) (defScope d.st) (.ref Tb) kV doc pm an cdv ct) ⟨us, []⟩ = seqItems? (.ref Tb) >>= kk ∧ kk (some its.toArray) = pure (ps.zip (us ++ its.drop j)))
    (F : ∀ fd, FunD K d.name d.qual (defArgs d.st) (defBody d.st) (defScope d.st) vs [] d.f fd → FnOk P w K mg base CX0 k d.f fd ps sp) : Fn P w K mg base k d.name ps (vs.drop j) sp := by
  obtain ⟨fd, f⟩ := T.fnD d hd Ta vs h0 ht
  obtain ⟨ds, hV, hB⟩ := f.binds1 (ps := ps) n j hv hn hb
  exact ⟨d.f, fd, ds, T.at_ hg, f.kp, F fd f, hB, hV⟩
/-! ### part_of, added, less, times, is_less: by places, by keywords -/
theorem fn_part_of (T : Tx K mg) : Fn P w K mg base 3 "part_of" ["top", "bottom"] [] (spD K R_part_of) := Fn.mk_ T m_part_of rfl g_part_of (fun _ _ _ _ _ _ us hl => match us, hl with | [_, _], _ => rfl) fun fd F => ok_part_of T F
theorem fk_part_of (T : Tx K mg) : FnK P w K mg base 3 "part_of" ["top", "bottom"] ["bottom", "top"] List.reverse (spD K R_part_of) := FnK.mk_ T m_part_of rfl g_part_of (fun _ _ _ _ _ _ ws hl => match ws, hl with | [_, _], _ => rfl) fun fd F => ok_part_of T F
end
end Gk
end

section
set_option linter.all false
set_option maxRecDepth 100000
namespace Gk
open PySem PySem.Spec PyProof.Rows L2 Evl
theorem sh_tup {n : Nat} {ds : List PyData} (h : ∀ d ∈ ds, sh n d = true) : sh (n + 1) (.tuple ds) = true := List.all_eq_true.mpr h
theorem sh_lst {n : Nat} {ds : List PyData} (h : ∀ d ∈ ds, sh n d = true) : sh (n + 1) (.list ds) = true := List.all_eq_true.mpr h
theorem sh_map {α : Type} {n : Nat} {f : α → PyData} {xs : List α} (h : ∀ x ∈ xs, sh n (f x) = true) : sh (n + 1) (.tuple (xs.map f)) = true := sh_tup fun d hd => by
  obtain ⟨x, hx, rfl⟩ := List.mem_map.mp hd
  exact h x hx
theorem sh_int {n : Nat} {i : Int} : sh n (.int i) = true := by cases n <;> rfl
theorem sh_bool {n : Nat} {i : Bool} : sh n (.bool i) = true := by cases n <;> rfl
theorem sh_non {n : Nat} : sh n .none = true := by cases n <;> rfl
theorem sh_dP {n : Nat} {q : Rat} : sh (n + 1) (dP q) = true := sh_tup fun d hd => by
  rcases List.mem_cons.mp hd with rfl | hd
  · exact sh_int
  · rcases List.mem_cons.mp hd with rfl | hd
    · exact sh_int
    · cases hd
theorem sh_dO {n : Nat} : ∀ {q : Option Rat}, sh (n + 1) (dO q) = true
  | none => sh_non
  | some _ => sh_dP
theorem eqv_self {n : Nat} {d : PyData} (h : sh n d = true) : PyData.eqv d d = true := PySem.SeqAt.eqv_refl d (sh_ok n d h).1
theorem eqvAll_self {n : Nat} {ds : List PyData} (h : ∀ d ∈ ds, sh n d = true) : PyData.eqv (.list ds) (.list ds) = true := eqv_self (sh_lst h)
/-- two answers, each answer's negation -/
theorem ne_self {n : Nat} {d : PyData} (h : sh n d = true) : (!PyData.eqv d d) = false := by rw [eqv_self h] <;> rfl
section
variable {X : Cx} {e : Expr} {es : List Expr} {G : List Slot} {D : Lists} {d d1 d2 : PyData} {ds ds1 ds2 : List PyData} {pos : Pos} {a b c : Expr} {p q : Bool}
theorem pd_neg {i : Int} (ha : PD X G D a (.int i)) : PD X G D (.UnaryOp .USub a pos) (.int (-i)) :=
  PE.by_ (pe_un un_neg ha) fun t H Q ⟨E, r⟩ => ⟨E, fun v H1 e1 f => ⟨i, f, r _ H1 e1 rfl⟩⟩
theorem cd_eqLL {k : Nat} (hr : Room k X.A) (ha : PR X G D a ds1) (hb : PR X G D b ds2) (s1 : sh 9 (.list ds1) = true) (s2 : sh 9 (.list ds2) = true) : CD X G D .Eq a b (PyData.eqv (.list ds1) (.list ds2)) :=
  ⟨_, _, _, op_eqD hr.units, ha, hb, fun t H Q E q => ⟨E, fun v vs H1 e1 h1 f1 => ⟨E.mono e1, fun u us H2 e2 h2 f2 => ⟨.list ds1, .list ds2, .lst (SqL.of (e2 _ _ h1)) (f1.mono (Ex.tp e2)).dp, .lst (SqL.of h2) f2.dp, sh_shaped s1, sh_shaped s2, q H2 (e1.trans e2)⟩⟩⟩⟩
theorem cd_neLL {k : Nat} (hr : Room k X.A) (ha : PR X G D a ds1) (hb : PR X G D b ds2) (s1 : sh 9 (.list ds1) = true) (s2 : sh 9 (.list ds2) = true) : CD X G D .NotEq a b (!PyData.eqv (.list ds1) (.list ds2)) :=
  ⟨_, _, _, op_neD hr.units, ha, hb, fun t H Q E q => ⟨E, fun v vs H1 e1 h1 f1 => ⟨E.mono e1, fun u us H2 e2 h2 f2 => ⟨.list ds1, .list ds2, .lst (SqL.of (e2 _ _ h1)) (f1.mono (Ex.tp e2)).dp, .lst (SqL.of h2) f2.dp, sh_shaped s1, sh_shaped s2, q H2 (e1.trans e2)⟩⟩⟩⟩
/-- a datum beside a list: never the same -/
theorem k_NOUGHT (T : Tx X.K X.mg) (hg : Gl X "NOUGHT" := by rfl) : PD X G D (.Name "NOUGHT" pos) (dP 0) := k_tup (ns := [0, 1]) T g_NOUGHT (by decide) hg (by decide)
theorem k_MOST_GAIN (T : Tx X.K X.mg) (hg : Gl X "MOST_GAIN" := by rfl) : PD X G D (.Name "MOST_GAIN" pos) (dP 12) := k_tup (ns := [12, 1]) T g_MOST_GAIN (by decide) hg (by decide)
theorem k_LEAST_GAIN (T : Tx X.K X.mg) (hg : Gl X "LEAST_GAIN" := by rfl) : PD X G D (.Name "LEAST_GAIN" pos) (dP (-12)) := k_tup (ns := [-12, 1]) T g_LEAST_GAIN (by decide) hg (by decide)
theorem k_HOURS (T : Tx X.K X.mg) (hg : Gl X "HOURS" := by rfl) : PD X G D (.Name "HOURS" pos) (dP 24) := k_tup (ns := [24, 1]) T g_HOURS (by decide) hg (by decide)
theorem k_CLOCKS (T : Tx X.K X.mg) (hg : Gl X "CLOCKS" := by rfl) : PD X G D (.Name "CLOCKS" pos) (.int 6) := k_int T g_CLOCKS hg (by decide)
theorem k_MOST_TELLINGS (T : Tx X.K X.mg) (hg : Gl X "MOST_TELLINGS" := by rfl) : PD X G D (.Name "MOST_TELLINGS" pos) (.int 16) := k_int T g_MOST_TELLINGS hg (by decide)
theorem k_MOST_STEPS (T : Tx X.K X.mg) (hg : Gl X "MOST_STEPS" := by rfl) : PD X G D (.Name "MOST_STEPS" pos) (.int 60) := k_int T g_MOST_STEPS hg (by decide)
theorem k_MOST_SETS (T : Tx X.K X.mg) (hg : Gl X "MOST_SETS" := by rfl) : PD X G D (.Name "MOST_SETS" pos) (.int 6) := k_int T g_MOST_SETS hg (by decide)
theorem k_MOST_OFFERED (T : Tx X.K X.mg) (hg : Gl X "MOST_OFFERED" := by rfl) : PD X G D (.Name "MOST_OFFERED" pos) (.int 10) := k_int T g_MOST_OFFERED hg (by decide)
theorem k_MOST_OFFERS (T : Tx X.K X.mg) (hg : Gl X "MOST_OFFERS" := by rfl) : PD X G D (.Name "MOST_OFFERS" pos) (.int 6) := k_int T g_MOST_OFFERS hg (by decide)
theorem k_MOST_STANDING (T : Tx X.K X.mg) (hg : Gl X "MOST_STANDING" := by rfl) : PD X G D (.Name "MOST_STANDING" pos) (.int 10) := k_int T g_MOST_STANDING hg (by decide)
end
section
variable {P : Program} {w : World} {K : PySem.W.Frag} {mg : Str → Option Value} {base : Heap}
inductive R_added : List PyData → Res → Prop
  | mk {p q : Rat} (h : Sm p) (k : Sm q) : R_added [dP p, dP q] (.dat (dP (p + q)))
theorem sc_added : FnScope ["one", "other"] ["one", "other"] (defScope s_added) := ⟨rfl, rfl, rfl, by decide +kernel, rfl, by decide +kernel, by decide +kernel⟩
theorem ok_added (T : Tx K mg) {ds : List V} {fd : FuncData} (F : FunD K d_added.name d_added.qual (defArgs d_added.st) (defBody d_added.st) (defScope d_added.st) ds [] d_added.f fd) : FnOk P w K mg base CX0 4 d_added.f fd ["one", "other"] (spD K R_added) := by
  refine fn_body F sc_added (by rintro _ _ ⟨⟩; rfl) fun cdv A outer s H E hr ds r hR => ?_
  cases hR with
  | mk h k =>
    refine sds_cons (sd_expr (pd_call (fn_need_part T) hr (by decide) (pds_cons (pd_var 0) pds_nil) .mk) ?_)
    refine sds_cons (sd_expr (pd_call (fn_need_part T) hr (by decide) (pds_cons (pd_var 1) pds_nil) .mk) ?_)
    exact sds_cons (sd_ret (pd_call (fn_plus T) hr (by decide) (pds_cons (pd_var 0) (pds_cons (pd_var 1) pds_nil)) (.mk h k)) rfl)
theorem fn_added (T : Tx K mg) : Fn P w K mg base 4 "added" ["one", "other"] [] (spD K R_added) := Fn.mk_ T m_added rfl g_added (fun _ _ _ _ _ _ us hl => match us, hl with | [_, _], _ => rfl) fun fd F => ok_added T F
theorem fk_added (T : Tx K mg) : FnK P w K mg base 4 "added" ["one", "other"] ["other", "one"] List.reverse (spD K R_added) := FnK.mk_ T m_added rfl g_added (fun _ _ _ _ _ _ ws hl => match ws, hl with | [_, _], _ => rfl) fun fd F => ok_added T F
inductive R_less : List PyData → Res → Prop
  | mk {p q : Rat} (h : Sm p) (k : Sm q) : R_less [dP p, dP q] (.dat (dP (p - q)))
theorem sc_less : FnScope ["one", "other"] ["one", "other"] (defScope s_less) := ⟨rfl, rfl, rfl, by decide +kernel, rfl, by decide +kernel, by decide +kernel⟩
theorem ok_less (T : Tx K mg) {ds : List V} {fd : FuncData} (F : FunD K d_less.name d_less.qual (defArgs d_less.st) (defBody d_less.st) (defScope d_less.st) ds [] d_less.f fd) : FnOk P w K mg base CX0 4 d_less.f fd ["one", "other"] (spD K R_less) := by
  refine fn_body F sc_less (by rintro _ _ ⟨⟩; rfl) fun cdv A outer s H E hr ds r hR => ?_
  cases hR with
  | mk h k =>
    refine sds_cons (sd_expr (pd_call (fn_need_part T) hr (by decide) (pds_cons (pd_var 0) pds_nil) .mk) ?_)
    refine sds_cons (sd_expr (pd_call (fn_need_part T) hr (by decide) (pds_cons (pd_var 1) pds_nil) .mk) ?_)
    exact sds_cons (sd_ret (pd_call (fn_minus T) hr (by decide) (pds_cons (pd_var 0) (pds_cons (pd_var 1) pds_nil)) (.mk h k)) rfl)
theorem fn_less (T : Tx K mg) : Fn P w K mg base 4 "less" ["one", "other"] [] (spD K R_less) := Fn.mk_ T m_less rfl g_less (fun _ _ _ _ _ _ us hl => match us, hl with | [_, _], _ => rfl) fun fd F => ok_less T F
theorem fk_less (T : Tx K mg) : FnK P w K mg base 4 "less" ["one", "other"] ["other", "one"] List.reverse (spD K R_less) := FnK.mk_ T m_less rfl g_less (fun _ _ _ _ _ _ ws hl => match ws, hl with | [_, _], _ => rfl) fun fd F => ok_less T F
inductive R_times : List PyData → Res → Prop
  | mk {p q : Rat} (h : Sm p) (k : Sm q) : R_times [dP p, dP q] (.dat (dP (p * q)))
theorem sc_times : FnScope ["one", "other"] ["one", "other"] (defScope s_times) := ⟨rfl, rfl, rfl, by decide +kernel, rfl, by decide +kernel, by decide +kernel⟩
theorem ok_times (T : Tx K mg) {ds : List V} {fd : FuncData} (F : FunD K d_times.name d_times.qual (defArgs d_times.st) (defBody d_times.st) (defScope d_times.st) ds [] d_times.f fd) : FnOk P w K mg base CX0 4 d_times.f fd ["one", "other"] (spD K R_times) := by
  refine fn_body F sc_times (by rintro _ _ ⟨⟩; rfl) fun cdv A outer s H E hr ds r hR => ?_
  cases hR with
  | mk h k =>
    refine sds_cons (sd_expr (pd_call (fn_need_part T) hr (by decide) (pds_cons (pd_var 0) pds_nil) .mk) ?_)
    refine sds_cons (sd_expr (pd_call (fn_need_part T) hr (by decide) (pds_cons (pd_var 1) pds_nil) .mk) ?_)
    exact sds_cons (sd_ret (pd_call (fn_product T) hr (by decide) (pds_cons (pd_var 0) (pds_cons (pd_var 1) pds_nil)) (.mk h k)) rfl)
theorem fn_times (T : Tx K mg) : Fn P w K mg base 4 "times" ["one", "other"] [] (spD K R_times) := Fn.mk_ T m_times rfl g_times (fun _ _ _ _ _ _ us hl => match us, hl with | [_, _], _ => rfl) fun fd F => ok_times T F
theorem fk_times (T : Tx K mg) : FnK P w K mg base 4 "times" ["one", "other"] ["other", "one"] List.reverse (spD K R_times) := FnK.mk_ T m_times rfl g_times (fun _ _ _ _ _ _ ws hl => match ws, hl with | [_, _], _ => rfl) fun fd F => ok_times T F
inductive R_is_less : List PyData → Res → Prop
  | mk {p q : Rat} (h : Sm p) (k : Sm q) : R_is_less [dP p, dP q] (.dat (.bool (decide (p < q))))
theorem sc_is_less : FnScope ["one", "other"] ["one", "other"] (defScope s_is_less) := ⟨rfl, rfl, rfl, by decide +kernel, rfl, by decide +kernel, by decide +kernel⟩
theorem ok_is_less (T : Tx K mg) {ds : List V} {fd : FuncData} (F : FunD K d_is_less.name d_is_less.qual (defArgs d_is_less.st) (defBody d_is_less.st) (defScope d_is_less.st) ds [] d_is_less.f fd) : FnOk P w K mg base CX0 4 d_is_less.f fd ["one", "other"] (spD K R_is_less) := by
  refine fn_body F sc_is_less (by rintro _ _ ⟨⟩; rfl) fun cdv A outer s H E hr ds r hR => ?_
  cases hR with
  | mk h k =>
    refine sds_cons (sd_expr (pd_call (fn_need_part T) hr (by decide) (pds_cons (pd_var 0) pds_nil) .mk) ?_)
    refine sds_cons (sd_expr (pd_call (fn_need_part T) hr (by decide) (pds_cons (pd_var 1) pds_nil) .mk) ?_)
    exact sds_cons (sd_ret (pd_call (fn_below T) hr (by decide) (pds_cons (pd_var 0) (pds_cons (pd_var 1) pds_nil)) (.mk h k)) rfl)
theorem fn_is_less (T : Tx K mg) : Fn P w K mg base 4 "is_less" ["one", "other"] [] (spD K R_is_less) := Fn.mk_ T m_is_less rfl g_is_less (fun _ _ _ _ _ _ us hl => match us, hl with | [_, _], _ => rfl) fun fd F => ok_is_less T F
theorem fk_is_less (T : Tx K mg) : FnK P w K mg base 4 "is_less" ["one", "other"] ["other", "one"] List.reverse (spD K R_is_less) := FnK.mk_ T m_is_less rfl g_is_less (fun _ _ _ _ _ _ ws hl => match ws, hl with | [_, _], _ => rfl) fun fd F => ok_is_less T F

end
end Gk
end

section
set_option linter.all false
set_option maxRecDepth 100000
namespace Gk
open PySem PySem.Spec PyProof.Rows L2 Evl
/-! ## sizes -/
structure Sz (D M : Nat) : Prop where
  nz : D ≠ 0
  d : D < 2 ^ 3000
  m : M < 2 ^ 2900
theorem Sz.sm {D M : Nat} {q : Rat} (z : Sz D M) (c : Nat) (h : Gr D (c * M) q) (hc : c ≤ 2 ^ 100 := by decide) : Sm q := by
  refine h.sm z.nz z.d ?_
  have hm := z.m
  have h1 : c * M ≤ 2 ^ 100 * M := Nat.mul_le_mul hc (Nat.le_refl _)
  have h2 : 2 ^ 100 * M < 2 ^ 100 * 2 ^ 2900 := Nat.mul_lt_mul_of_pos_left hm (by decide)
  rw [← Nat.pow_add] at h2
  exact Nat.lt_of_le_of_lt h1 h2
theorem Sz.sm1 {D M : Nat} {q : Rat} (z : Sz D M) (h : Gr D M q) : Sm q := z.sm 1 (by rw [Nat.one_mul]; exact h)
/-! ## tellings -/
structure Tel where
  one : Nat
  other : Nat
  low : Option Rat
  high : Option Rat
abbrev dTel (t : Tel) : PyData := .tuple [.int t.one, .int t.other, dO t.low, dO t.high]
abbrev dTels (ts : List Tel) : PyData := .tuple (ts.map dTel)
structure TelOk (D M : Nat) (t : Tel) : Prop where
  one : t.one < 6
  other : t.other < 6
  ne : t.one ≠ t.other
  some_ : t.low ≠ none ∨ t.high ≠ none
  le : ∀ a b, t.low = some a → t.high = some b → a ≤ b
  lo : ∀ a, t.low = some a → Gr D M a
  hi : ∀ a, t.high = some a → Gr D M a
structure Tels (D M : Nat) (ts : List Tel) : Prop where
  len : ts.length ≤ 16
  ok : ∀ t ∈ ts, TelOk D M t
def enumL {α : Type} : Nat → List α → List (Nat × α)
  | _, [] => []
  | k, x :: xs => (k, x) :: enumL (k + 1) xs
theorem enums_map {α : Type} (f : α → PyData) : ∀ (k : Nat) (xs : List α), enums k (xs.map f) = (enumL k xs).map fun p => .tuple [.int p.1, f p.2]
  | _, [] => rfl
  | k, x :: xs => congrArg _ (enums_map f (k + 1) xs)
theorem enumL_len {α : Type} : ∀ (k : Nat) (xs : List α), (enumL k xs).length = xs.length
  | _, [] => rfl
  | k, _ :: xs => congrArg Nat.succ (enumL_len (k + 1) xs)
theorem enumL_get {α : Type} : ∀ {k : Nat} {xs : List α} {i : Nat} {p : Nat × α}, (enumL k xs)[i]? = some p → p.1 = k + i ∧ xs[i]? = some p.2
  | _, [], _, _, h => by simp [enumL] at h
  | k, x :: xs, 0, p, h => by
    have e : (k, x) = p := Option.some.inj h
    subst e
    exact ⟨rfl, rfl⟩
  | k, x :: xs, i + 1, p, h => by
    have q := enumL_get (k := k + 1) (xs := xs) (i := i) h
    exact ⟨by rw [q.1]; omega, q.2⟩
theorem enumL_mem {α : Type} {xs : List α} {p : Nat × α} (h : p ∈ enumL 0 xs) : xs[p.1]? = some p.2 := by
  obtain ⟨i, hi⟩ := List.getElem?_of_mem h
  obtain ⟨e, q⟩ := enumL_get hi
  rw [e, Nat.zero_add]
  exact q
theorem dO_non {o : Option Rat} : isNone (dO o) = o.isNone := by cases o <;> rfl
structure Step where
  one : Nat
  other : Nat
  long : Rat
  num : Nat
  sgn : Int
deriving DecidableEq
abbrev dStep (s : Step) : PyData := .tuple [.int s.one, .int s.other, dP s.long, .int s.num, .int s.sgn]
def stepsAt (p : Nat × Tel) : List Step := (match p.2.high with
  | some h => [⟨p.2.one, p.2.other, h, p.1, 1⟩]
  | none => []) ++ match p.2.low with
  | some l => [⟨p.2.other, p.2.one, -l, p.1, -1⟩]
  | none => []
def stepsOf (ts : List Tel) : List Step := (enumL 0 ts).flatMap stepsAt
theorem flat_take {α β : Type} {f : α → List β} {xs : List α} {i : Nat} {x : α} (h : xs[i]? = some x) : (xs.take (i + 1)).flatMap f = (xs.take i).flatMap f ++ f x := by
  rw [List.take_add_one, h, List.flatMap_append]
  simp
theorem stepsAt_len (p : Nat × Tel) : (stepsAt p).length ≤ 2 := by
  unfold stepsAt
  cases p.2.high <;> cases p.2.low <;> simp
theorem flat_len {α β : Type} {f : α → List β} (hf : ∀ x, (f x).length ≤ 2) : ∀ xs : List α, (xs.flatMap f).length ≤ 2 * xs.length
  | [] => by simp
  | x :: xs => by
    rw [List.flatMap_cons, List.length_append, List.length_cons]
    have := hf x
    have := flat_len hf xs
    omega
section
variable {P : Program} {w : World} {K : PySem.W.Frag} {mg : Str → Option Value} {base : Heap}
/-! ### is_clock_number, need_clock_number, are_bounds -/
inductive R_is_clock_number : List PyData → Res → Prop
  | mk {d : PyData} : R_is_clock_number [d] (.dat (.bool (inB d 0 5)))
theorem sc_is_clock_number : FnScope ["thing"] ["thing"] (defScope s_is_clock_number) := ⟨rfl, rfl, rfl, by decide +kernel, rfl, by decide +kernel, by decide +kernel⟩
theorem fn_is_clock_number (T : Tx K mg) : Fn P w K mg base 3 "is_clock_number" ["thing"] [] (spD K R_is_clock_number) := by
  refine Fn.mk_ T m_is_clock_number rfl g_is_clock_number (fun _ _ _ _ _ _ us hl => match us, hl with | [_], _ => rfl) fun fd F => fn_body F sc_is_clock_number (by rintro _ _ ⟨⟩; rfl) fun cdv A outer s H E hr ds r hR => ?_
  cases hR with
  | mk =>
    exact sds_cons (sd_ret (pd_call (fn_is_from_to T) hr (by decide) (pds_cons (pd_var 0) (pds_cons pd_int (pds_cons (pd_sub (k_CLOCKS T) pd_int) pds_nil))) .mk) rfl)
theorem inB_nat {n : Nat} {i j : Int} (h : i ≤ n) (h2 : (n : Int) ≤ j) : inB (.int n) i j = true := by
  show (decide (i ≤ (n : Int)) && decide ((n : Int) ≤ j)) = true
  rw [decide_eq_true h, decide_eq_true h2] <;> rfl
inductive R_need_clock_number : List PyData → Res → Prop
  | mk {n : Nat} (h : n < 6) : R_need_clock_number [.int n] (.dat .none)
theorem sc_need_clock_number : FnScope ["thing"] ["thing"] (defScope s_need_clock_number) := ⟨rfl, rfl, rfl, by decide +kernel, rfl, by decide +kernel, by decide +kernel⟩
theorem fn_need_clock_number (T : Tx K mg) : Fn P w K mg base 4 "need_clock_number" ["thing"] [] (spD K R_need_clock_number) := by
  refine Fn.mk_ T m_need_clock_number rfl g_need_clock_number (fun _ _ _ _ _ _ us hl => match us, hl with | [_], _ => rfl) fun fd F => fn_body F sc_need_clock_number (by rintro _ _ ⟨⟩; rfl) fun cdv A outer s H E hr ds r hR => ?_
  cases hR with
  | @mk n h =>
    refine sds_cons (sd_if (b := false) (pq_not (p := true) (pq_val (pd_call (fn_is_clock_number T) hr (by decide) (pds_cons (pd_var 0) pds_nil) ?_))) (fun h1 => by cases h1) (fun _ => sds_nil ?_))
    · rw [← inB_nat (n := n) (i := 0) (j := 5) (by omega) (by omega)]
      exact .mk
    exact sds_nil rfl
def boundsOk (low high : Option Rat) : Bool := match low, high with
  | none, none => false
  | some a, some b => decide (a ≤ b)
  | _, _ => true
inductive R_are_bounds : List PyData → Res → Prop
  | mk {low high : Option Rat} (h1 : ∀ a, low = some a → Sm a) (h2 : ∀ a, high = some a → Sm a) : R_are_bounds [dO low, dO high] (.dat (.bool (boundsOk low high)))
theorem sc_are_bounds : FnScope ["low", "high"] ["low", "high"] (defScope s_are_bounds) := ⟨rfl, rfl, rfl, by decide +kernel, rfl, by decide +kernel, by decide +kernel⟩
theorem not_lt_dec {a b : Rat} : (!decide (b < a)) = decide (a ≤ b) := by
  by_cases h : a ≤ b
  · rw [decide_eq_true h, decide_eq_false (Rat.not_lt.mpr h)] <;> rfl
  · rw [decide_eq_false h, decide_eq_true (Rat.not_le.mp h)] <;> rfl
theorem fn_are_bounds (T : Tx K mg) : Fn P w K mg base 3 "are_bounds" ["low", "high"] [] (spD K R_are_bounds) := by
  refine Fn.mk_ T m_are_bounds rfl g_are_bounds (fun _ _ _ _ _ _ us hl => match us, hl with | [_, _], _ => rfl) fun fd F => fn_body F sc_are_bounds (by rintro _ _ ⟨⟩; rfl) fun cdv A outer s H E hr ds r hR => ?_
  cases hR with
  | @mk low high k1 k2 =>
    cases low with
    | none =>
      refine sds_cons (sd_if (wq_q (wq_or (q := true) (pq_cmp (cd_isN (pd_var 0))) fun h1 => by cases h1)) (fun h2 => ?_) (fun h2 => by cases h2))
      cases high with
      | none => exact sds_cons (sd_ret (pd_or (pd_call (fn_is_part T) hr (by decide) (pds_cons (pd_var 0) pds_nil) .non) fun h3 => (pd_one (pd_call (fn_is_part T) hr (by decide) (pds_cons (pd_var 1) pds_nil) .non))) rfl)
      | some b => exact sds_cons (sd_ret (pd_or (pd_call (fn_is_part T) hr (by decide) (pds_cons (pd_var 0) pds_nil) .non) fun h3 => (pd_one (pd_call (fn_is_part T) hr (by decide) (pds_cons (pd_var 1) pds_nil) .mk))) rfl)
    | some a =>
      cases high with
      | none =>
        refine sds_cons (sd_if (wq_q (wq_or (pq_cmp (cd_isN (pd_var 0))) fun h1 => (wq_or1 (pq_cmp (cd_isN (pd_var 1)))))) (fun h2 => ?_) (fun h2 => by cases h2))
        exact sds_cons (sd_ret (pd_or (q := false) (pd_call (fn_is_part T) hr (by decide) (pds_cons (pd_var 0) pds_nil) .mk) fun h3 => by cases h3) rfl)
      | some b =>
        refine sds_cons (sd_if (wq_q (wq_or (pq_cmp (cd_isN (pd_var 0))) fun h1 => (wq_or1 (pq_cmp (cd_isN (pd_var 1)))))) (fun h2 => by cases h2) (fun h2 => sds_nil ?_))
        refine sds_cons (sd_ret (pd_and (pd_call (fn_is_part T) hr (by decide) (pds_cons (pd_var 0) pds_nil) .mk) fun h4 => (pd_and (pd_call (fn_is_part T) hr (by decide) (pds_cons (pd_var 1) pds_nil) .mk) fun h5 => (pd_one (pd_not (pd_call (fn_below T) hr (by decide) (pds_cons (pd_var 1) (pds_cons (pd_var 0) pds_nil)) (.mk (k2 _ rfl) (k1 _ rfl))))))) ?_)
        rw [not_lt_dec] <;> rfl
end
end Gk
end

section
set_option linter.all false
set_option maxRecDepth 100000
namespace Gk
open PySem PySem.Spec PyProof.Rows L2 Evl
section
variable {X : Cx} {e : Expr} {es : List Expr} {G : List Slot} {D : Lists} {d d1 d2 : PyData} {a b : Expr} {q : Bool}
theorem cd_eqV {k : Nat} (h : PyData.eqv d1 d2 = q) (hr : Room k X.A) (ha : PD X G D a d1) (hb : PD X G D b d2) (s1 : sh 9 d1 = true := by rfl) (s2 : sh 9 d2 = true := by rfl) : CD X G D .Eq a b q := h ▸ cd_eq' hr ha hb s1 s2
theorem cd_neV {k : Nat} (h : (!PyData.eqv d1 d2) = q) (hr : Room k X.A) (ha : PD X G D a d1) (hb : PD X G D b d2) (s1 : sh 9 d1 = true := by rfl) (s2 : sh 9 d2 = true := by rfl) : CD X G D .NotEq a b q := h ▸ cd_ne' hr ha hb s1 s2
theorem CD.to {op : CmpOp} {p q : Bool} (h : CD X G D op a b p) (e : p = q) : CD X G D op a b q := e ▸ h
theorem eqv_int {i j : Int} : PyData.eqv (.int i) (.int j) = (i == j) := rfl
theorem eqv_nat {i j : Nat} : PyData.eqv (.int i) (.int j) = decide (i = j) := by
  rw [eqv_int]
  by_cases h : i = j
  · subst h
    simp
  · have : ¬ ((i : Int) = (j : Int)) := by omega
    simp [h, this]
theorem all_true {α : Type} (xs : List α) : (xs.map fun _ => true).all id = true := by simp
end
theorem eqv_dP {p q : Rat} : PyData.eqv (dP p) (dP q) = decide (p = q) := by
  show (p.num == q.num && (((p.den : Int) == (q.den : Int)) && true)) = _
  by_cases h : p = q
  · subst h
    simp
  · rw [decide_eq_false h, Bool.and_true]
    by_cases h1 : p.num = q.num
    · have h2 : ¬ ((p.den : Int) = (q.den : Int)) := fun z => h (Rat.ext h1 (by omega))
      rw [beq_eq_false_iff_ne.mpr h2, Bool.and_false]
    · rw [beq_eq_false_iff_ne.mpr h1, Bool.false_and]
theorem eqv_dO {p q : Option Rat} : PyData.eqv (dO p) (dO q) = decide (p = q) := by
  cases p with
  | none => cases q <;> rfl
  | some a =>
    cases q with
    | none => rfl
    | some b =>
      show PyData.eqv (dP a) (dP b) = _
      rw [eqv_dP]
      simp
def kept (t : Tel) (row : List Rat) : Bool :=
  (match t.low with
    | some l => decide (l ≤ row.getD t.other 0 - row.getD t.one 0)
    | none => true) && match t.high with
    | some h => decide (row.getD t.other 0 - row.getD t.one 0 ≤ h)
    | none => true
abbrev dRow (row : List Rat) : PyData := .tuple (row.map dP)
theorem at_map {α : Type} {f : α → PyData} {xs : List α} {n : Nat} {z : α} (h : n < xs.length) : atI (xs.map f) (n : Int) = some (f (xs.getD n z)) := by
  have e : ixN (xs.map f).length (n : Int) = some n := by
    rw [List.length_map]
    unfold ixN
    simp [h]
  unfold atI
  rw [e]
  show (xs.map f)[n]? = _
  rw [List.getElem?_map, List.getElem?_eq_getElem h]
  simp [List.getD, h]
section
variable {P : Program} {w : World} {K : PySem.W.Frag} {mg : Str → Option Value} {base : Heap}
theorem R_is_clock_number.nat {n : Nat} (h : n < 6) : R_is_clock_number [.int n] (.dat (.bool true)) := by
  rw [← inB_nat (n := n) (i := 0) (j := 5) (by omega) (by omega)]
  exact .mk
theorem R_are_bounds.ok {D M : Nat} {t : Tel} (z : Sz D M) (h : TelOk D M t) : R_are_bounds [dO t.low, dO t.high] (.dat (.bool true)) := by
  have e : boundsOk t.low t.high = true := by
    have h1 := h.some_
    have h2 := h.le
    cases hl : t.low with
    | none =>
      cases hh : t.high with
      | none => rw [hl, hh] at h1; simp at h1
      | some b => rfl
    | some a =>
      cases hh : t.high with
      | none => rfl
      | some b => exact decide_eq_true (h2 a b hl hh)
  rw [← e]
  exact .mk (fun a q => z.sm1 (h.lo a q)) (fun a q => z.sm1 (h.hi a q))
/-! ### is_telling, are_tellings, need_telling, need_tellings -/
inductive R_is_telling : List PyData → Res → Prop
  | mk {D M : Nat} {t : Tel} (z : Sz D M) (h : TelOk D M t) : R_is_telling [dTel t] (.dat (.bool true))
theorem sc_is_telling : FnScope ["thing"] ["thing"] (defScope s_is_telling) := ⟨rfl, rfl, rfl, by decide +kernel, rfl, by decide +kernel, by decide +kernel⟩
theorem ok_is_telling (T : Tx K mg) {ds : List V} {fd : FuncData} (F : FunD K d_is_telling.name d_is_telling.qual (defArgs d_is_telling.st) (defBody d_is_telling.st) (defScope d_is_telling.st) ds [] d_is_telling.f fd) : FnOk P w K mg base CX0 4 d_is_telling.f fd ["thing"] (spD K R_is_telling) := by
  refine fn_body F sc_is_telling (by rintro _ _ ⟨⟩; rfl) fun cdv A outer s H E hr ds r hR => ?_
  cases hR with
  | @mk D M t z h =>
    refine sds_cons (sd_if (wq_q (wq_or (pq_not (pq_val (pd_isT T.toTxt (pd_var 0)))) fun h1 => (wq_or1 (pq_cmp (cd_ne' hr (pd_lenT (pd_var 0) T.len) pd_int))))) (fun h2 => by cases h2) (fun h2 => sds_nil ?_))
    refine sds_cons (sd_if (wq_q (wq_or (p := false) (pq_not (p := true) (pq_val (pd_call (fn_is_clock_number T) hr (by decide) (pds_cons (pd_ix (pd_var 0) pd_int) pds_nil) (.nat h.one)))) fun h3 => (wq_or (p := false) (pq_not (p := true) (pq_val (pd_call (fn_is_clock_number T) hr (by decide) (pds_cons (pd_ix (pd_var 0) pd_int) pds_nil) (.nat h.other)))) fun h4 => (wq_or1 (p := false) (pq_cmp (cd_eqV (by rw [eqv_nat, decide_eq_false h.ne]) hr (pd_ix (pd_var 0) pd_int) (pd_ix (pd_var 0) pd_int))))))) (fun h5 => by cases h5) (fun h5 => sds_nil ?_))
    exact sds_cons (sd_ret (pd_call (fn_are_bounds T) hr (by decide) (pds_cons (pd_ix (pd_var 0) pd_int) (pds_cons (pd_ix (pd_var 0) pd_int) pds_nil)) (.ok z h)) rfl)
theorem fn_is_telling (T : Tx K mg) : Fn P w K mg base 4 "is_telling" ["thing"] [] (spD K R_is_telling) := Fn.mk_ T m_is_telling rfl g_is_telling (fun _ _ _ _ _ _ us hl => match us, hl with | [_], _ => rfl) fun fd F => ok_is_telling T F
theorem fk_is_telling (T : Tx K mg) : FnK P w K mg base 4 "is_telling" ["thing"] ["thing"] List.reverse (spD K R_is_telling) := FnK.mk_ T m_is_telling rfl g_is_telling (fun _ _ _ _ _ _ ws hl => match ws, hl with | [_], _ => rfl) fun fd F => ok_is_telling T F
inductive R_are_tellings : List PyData → Res → Prop
  | mk {D M : Nat} {ts : List Tel} (z : Sz D M) (h : Tels D M ts) : R_are_tellings [dTels ts] (.dat (.bool true))
theorem sc_are_tellings : FnScope ["thing", "one"] ["thing"] (defScope s_are_tellings) := ⟨rfl, rfl, rfl, by decide +kernel, rfl, by decide +kernel, by decide +kernel⟩
theorem ok_are_tellings (T : Tx K mg) {ds : List V} {fd : FuncData} (F : FunD K d_are_tellings.name d_are_tellings.qual (defArgs d_are_tellings.st) (defBody d_are_tellings.st) (defScope d_are_tellings.st) ds [] d_are_tellings.f fd) : FnOk P w K mg base CX0 5 d_are_tellings.f fd ["thing"] (spD K R_are_tellings) := by
  refine fn_body F sc_are_tellings (by rintro _ _ ⟨⟩; rfl) fun cdv A outer s H E hr ds r hR => ?_
  cases hR with
  | @mk D M ts z h =>
    refine sds_cons (sd_ret (pd_and (pd_isT T.toTxt (pd_var 0)) fun h1 => (pd_and (pd_cmp (cd_le (pd_lenT (pd_var 0) T.len) (k_MOST_TELLINGS T))) fun h2 => (pd_one (pd_all rfl (pl_r (pl_lc (own := [("one", 1)]) (lc_bool dTel ts (fun _ => true) (fun x hx => ⟨_, (fun _ _ _ _ _ => (gd_name 1 sc_are_tellings.nd)), (fun _ _ _ _ _ => qs_nil), fun _ _ _ _ _ _ => (pd_call (fn_is_telling T) hr (by decide) (pds_cons (pd_var 1) pds_nil) (.mk z (h.ok x hx)))⟩) (by have := h.len; omega) (id_tup (pd_var 0))) sc_are_tellings.nd (blkOk_by rfl))) T.all)))) ?_)
    have := h.len
    rw [all_true, List.length_map, decide_eq_true (by omega)] <;> rfl
theorem fn_are_tellings (T : Tx K mg) : Fn P w K mg base 5 "are_tellings" ["thing"] [] (spD K R_are_tellings) := Fn.mk_ T m_are_tellings rfl g_are_tellings (fun _ _ _ _ _ _ us hl => match us, hl with | [_], _ => rfl) fun fd F => ok_are_tellings T F
theorem fk_are_tellings (T : Tx K mg) : FnK P w K mg base 5 "are_tellings" ["thing"] ["thing"] List.reverse (spD K R_are_tellings) := FnK.mk_ T m_are_tellings rfl g_are_tellings (fun _ _ _ _ _ _ ws hl => match ws, hl with | [_], _ => rfl) fun fd F => ok_are_tellings T F
inductive R_need_telling : List PyData → Res → Prop
  | mk {D M : Nat} {t : Tel} (z : Sz D M) (h : TelOk D M t) : R_need_telling [dTel t] (.dat .none)
theorem sc_need_telling : FnScope ["thing"] ["thing"] (defScope s_need_telling) := ⟨rfl, rfl, rfl, by decide +kernel, rfl, by decide +kernel, by decide +kernel⟩
theorem fn_need_telling (T : Tx K mg) : Fn P w K mg base 5 "need_telling" ["thing"] [] (spD K R_need_telling) := by
  refine Fn.mk_ T m_need_telling rfl g_need_telling (fun _ _ _ _ _ _ us hl => match us, hl with | [_], _ => rfl) fun fd F => fn_body F sc_need_telling (by rintro _ _ ⟨⟩; rfl) fun cdv A outer s H E hr ds r hR => ?_
  cases hR with
  | mk z h =>
    exact sds_cons (sd_if (pq_not (pq_val (pd_call (fn_is_telling T) hr (by decide) (pds_cons (pd_var 0) pds_nil) (.mk z h)))) (fun h1 => by cases h1) (fun _ => sds_nil (sds_nil rfl)))
inductive R_need_tellings : List PyData → Res → Prop
  | mk {D M : Nat} {ts : List Tel} (z : Sz D M) (h : Tels D M ts) : R_need_tellings [dTels ts] (.dat .none)
theorem sc_need_tellings : FnScope ["thing"] ["thing"] (defScope s_need_tellings) := ⟨rfl, rfl, rfl, by decide +kernel, rfl, by decide +kernel, by decide +kernel⟩
theorem fn_need_tellings (T : Tx K mg) : Fn P w K mg base 6 "need_tellings" ["thing"] [] (spD K R_need_tellings) := by
  refine Fn.mk_ T m_need_tellings rfl g_need_tellings (fun _ _ _ _ _ _ us hl => match us, hl with | [_], _ => rfl) fun fd F => fn_body F sc_need_tellings (by rintro _ _ ⟨⟩; rfl) fun cdv A outer s H E hr ds r hR => ?_
  cases hR with
  | mk z h =>
    exact sds_cons (sd_if (pq_not (pq_val (pd_call (fn_are_tellings T) hr (by decide) (pds_cons (pd_var 0) pds_nil) (.mk z h)))) (fun h1 => by cases h1) (fun _ => sds_nil (sds_nil rfl)))
/-! ### is_row, need_row -/
inductive R_is_row : List PyData → Res → Prop
  | mk {row : List Rat} (h : row.length = 6) (h0 : row.getD 0 0 = 0) : R_is_row [dRow row] (.dat (.bool true))
theorem sc_is_row : FnScope ["thing", "one"] ["thing"] (defScope s_is_row) := ⟨rfl, rfl, rfl, by decide +kernel, rfl, by decide +kernel, by decide +kernel⟩
theorem fn_is_row (T : Tx K mg) : Fn P w K mg base 3 "is_row" ["thing"] [] (spD K R_is_row) := by
  refine Fn.mk_ T m_is_row rfl g_is_row (fun _ _ _ _ _ _ us hl => match us, hl with | [_], _ => rfl) fun fd F => fn_body F sc_is_row (by rintro _ _ ⟨⟩; rfl) fun cdv A outer s H E hr ds r hR => ?_
  cases hR with
  | @mk row h h0 =>
    refine sds_cons (sd_if (wq_q (wq_or (pq_not (pq_val (pd_isT T.toTxt (pd_var 0)))) fun h1 => (wq_or (pq_cmp (cd_neV (q := false) ?_ hr (pd_lenT (pd_var 0) T.len) (k_CLOCKS T))) fun h2 => (wq_or1 (pq_not (pq_val (pd_all rfl (pl_r (pl_lc (own := [("one", 1)]) (lc_bool dP row (fun _ => true) (fun x hx => ⟨_, (fun _ _ _ _ _ => (gd_name 1 sc_is_row.nd)), (fun _ _ _ _ _ => qs_nil), fun _ _ _ _ _ _ => (pd_call (fn_is_part T) hr (by decide) (pds_cons (pd_var 1) pds_nil) .mk)⟩) (by omega) (id_tup (pd_var 0))) sc_is_row.nd (blkOk_by rfl))) T.all))))))) (fun h3 => ?_) (fun h3 => sds_nil ?_))
    · rw [List.length_map, h] <;> rfl
    · rw [all_true] at h3
      cases h3
    refine sds_cons (sd_ret (pd_cmp (cd_eqV (q := true) ?_ hr (pd_ix (pd_var 0) pd_int (at_map (n := 0) (z := 0) (by omega))) (k_NOUGHT T) sh_dP)) rfl)
    rw [h0, eqv_dP] <;> rfl
inductive R_need_row : List PyData → Res → Prop
  | mk {row : List Rat} (h : row.length = 6) (h0 : row.getD 0 0 = 0) : R_need_row [dRow row] (.dat .none)
theorem sc_need_row : FnScope ["thing"] ["thing"] (defScope s_need_row) := ⟨rfl, rfl, rfl, by decide +kernel, rfl, by decide +kernel, by decide +kernel⟩
theorem fn_need_row (T : Tx K mg) : Fn P w K mg base 4 "need_row" ["thing"] [] (spD K R_need_row) := by
  refine Fn.mk_ T m_need_row rfl g_need_row (fun _ _ _ _ _ _ us hl => match us, hl with | [_], _ => rfl) fun fd F => fn_body F sc_need_row (by rintro _ _ ⟨⟩; rfl) fun cdv A outer s H E hr ds r hR => ?_
  cases hR with
  | mk h h0 =>
    exact sds_cons (sd_if (pq_not (pq_val (pd_call (fn_is_row T) hr (by decide) (pds_cons (pd_var 0) pds_nil) (.mk h h0)))) (fun h1 => by cases h1) (fun _ => sds_nil (sds_nil rfl)))
/-! ### is_kept, keeps, first_broken -/
structure RowOk (D M : Nat) (row : List Rat) : Prop where
  len : row.length = 6
  gr : ∀ i, Gr D M (row.getD i 0)
inductive R_is_kept : List PyData → Res → Prop
  | mk {D M : Nat} {t : Tel} {row : List Rat} (z : Sz D M) (h : TelOk D M t) (g : RowOk D M row) : R_is_kept [dTel t, dRow row] (.dat (.bool (kept t row)))
theorem sc_is_kept : FnScope ["telling", "row", "one", "other", "low", "high", "apart"] ["telling", "row"] (defScope s_is_kept) := ⟨rfl, rfl, rfl, by decide +kernel, rfl, by decide +kernel, by decide +kernel⟩
theorem fn_is_kept (T : Tx K mg) : Fn P w K mg base 4 "is_kept" ["telling", "row"] [] (spD K R_is_kept) := by
  refine Fn.mk_ T m_is_kept rfl g_is_kept (fun _ _ _ _ _ _ us hl => match us, hl with | [_, _], _ => rfl) fun fd F => fn_body F sc_is_kept (by rintro _ _ ⟨⟩; rfl) fun cdv A outer s H E hr ds r hR => ?_
  cases hR with
  | @mk D M t row z h g =>
    have so := z.sm1 (g.gr t.other)
    have sn := z.sm1 (g.gr t.one)
    have sd : Sm (row.getD t.other 0 - row.getD t.one 0) := z.sm 2 (by have := (g.gr t.other).sub (g.gr t.one); exact this.mono (by omega))
    have hk := kept.eq_1 t row
    refine sds_cons (sd_asgT (pd_var 0) (gd_tup (gds_cons (gd_name 2 sc_is_kept.nd) (gds_cons (gd_name 3 sc_is_kept.nd) (gds_cons (gd_name 4 sc_is_kept.nd) (gds_cons (gd_name 5 sc_is_kept.nd) gds_nil))))) ?_)
    refine sds_cons (sd_asg 6 sc_is_kept.nd (pd_call (fn_minus T) hr (by decide) (pds_cons (pd_ix (pd_var 1) (pd_var 3) (at_map (z := 0) (by rw [g.len]; exact h.other))) (pds_cons (pd_ix (pd_var 1) (pd_var 2) (at_map (z := 0) (by rw [g.len]; exact h.one))) pds_nil)) (.mk so sn)) ?_)
    have last : ∀ (M' : List Addr) (N : NP), SDs (cxOf CX0 P w K mg base ["telling", "row", "one", "other", "low", "high", "apart"] d_is_kept.qual (defScope d_is_kept.st) d_is_kept.f cdv A outer s H E).nox M' [.dat (dTel t), .dat (dRow row), .dat (.int t.one), .dat (.int t.other), .dat (dO t.low), .dat (dO t.high), .dat (dP (row.getD t.other 0 - row.getD t.one 0))] []
        (defBody d_is_kept.st |>.drop 3) N (fun r' => r' = .dat (.bool (match t.high with
          | some h => decide (row.getD t.other 0 - row.getD t.one 0 ≤ h)
          | none => true))) := fun M' N => by
      cases hh : t.high with
      | none => exact sds_cons (sd_ret (pd_or (q := true) (pd_cmp (cd_isN (pd_var 5))) fun h3 => by cases h3) rfl)
      | some b =>
        refine sds_cons (sd_ret (pd_or (pd_cmp (cd_isN (pd_var 5))) fun h3 => (pd_one (pd_not (pd_call (fn_below T) hr (by decide) (pds_cons (pd_var 5) (pds_cons (pd_var 6) pds_nil)) (.mk (z.sm1 (h.hi b hh)) sd))))) ?_)
        rw [not_lt_dec] <;> rfl
    cases hl : t.low with
    | none =>
      rw [hl] at hk last
      dsimp only at hk
      rw [hk]
      exact sds_cons (sd_if (wq_q (wq_and (q := true) (pq_cmp (cd_notN (pd_var 4))) fun h1 => by cases h1)) (fun h2 => by cases h2) (fun h2 => sds_nil (last _ _)))
    | some a =>
      rw [hl] at hk last
      dsimp only at hk
      rw [hk]
      refine sds_cons (sd_if (wq_q (wq_and (pq_cmp (cd_notN (pd_var 4))) fun h1 => (wq_and1 (pq_val (pd_call (fn_below T) hr (by decide) (pds_cons (pd_var 6) (pds_cons (pd_var 4) pds_nil)) (.mk sd (z.sm1 (h.lo a hl)))))))) (fun h2 => ?_) (fun h2 => sds_nil ?_))
      · refine sds_cons (sd_ret pd_bl ?_)
        have h3 : row.getD t.other 0 - row.getD t.one 0 < a := of_decide_eq_true h2
        rw [decide_eq_false (Rat.not_le.mpr h3)] <;> rfl
      · have h3 : ¬ row.getD t.other 0 - row.getD t.one 0 < a := of_decide_eq_false h2
        rw [decide_eq_true (Rat.not_lt.mp h3), Bool.true_and]
        exact last _ _
end
end Gk
end

section
set_option linter.all false
set_option maxRecDepth 100000
namespace Gk
open PySem PySem.Spec PyProof.Rows L2 Evl
def fbr (row : List Rat) : Nat → List Tel → PyData
  | _, [] => .none
  | k, t :: ts => if kept t row then fbr row (k + 1) ts else .int k
theorem drop_get {α : Type} {xs : List α} {i : Nat} {x : α} (h : xs[i]? = some x) : xs.drop i = x :: xs.drop (i + 1) := by
  have hlt : i < xs.length := by
    rcases Nat.lt_or_ge i xs.length with q | q
    · exact q
    · rw [List.getElem?_eq_none q] at h; cases h
  rw [List.getElem?_eq_getElem hlt] at h
  rw [List.drop_eq_getElem_cons hlt, Option.some.inj h]
/-! ## ways -/
abbrev dWay (ws : List Step) : PyData := .tuple (ws.map fun s => .tuple [.int s.num, .int s.sgn])
def Chain (S : List Step) : Nat → List Step → Prop
  | _, [] => True
  | b, s :: ws => s ∈ S ∧ s.one = b ∧ Chain S s.other ws
def endOf : Nat → List Step → Nat
  | b, [] => b
  | _, s :: ws => endOf s.other ws
def sumF : Rat → List Step → Rat
  | x, [] => x
  | x, s :: ws => sumF (x + s.long) ws
/-- a step's telling -/
inductive Fit (ts : List Tel) (s : Step) : Prop
  | up (t : Tel) (h : ts[s.num]? = some t) (h1 : s.sgn = 1) (h2 : s.one = t.one) (h3 : s.other = t.other) (h4 : t.high = some s.long)
  | down (t : Tel) (h : ts[s.num]? = some t) (h1 : s.sgn = -1) (h2 : s.one = t.other) (h3 : s.other = t.one) (l : Rat) (h4 : t.low = some l) (h5 : s.long = -l)
theorem fit_of {ts : List Tel} {s : Step} (h : s ∈ stepsOf ts) : Fit ts s := by
  obtain ⟨p, hp, hs⟩ := List.mem_flatMap.mp h
  have hg := enumL_mem hp
  unfold stepsAt at hs
  rcases List.mem_append.mp hs with hs | hs
  · cases hh : p.2.high with
    | none => rw [hh] at hs; cases hs
    | some q =>
      rw [hh] at hs
      have e := List.mem_singleton.mp hs
      subst e
      exact .up p.2 hg rfl rfl rfl hh
  · cases hh : p.2.low with
    | none => rw [hh] at hs; cases hs
    | some q =>
      rw [hh] at hs
      have e := List.mem_singleton.mp hs
      subst e
      exact .down p.2 hg rfl rfl rfl q hh rfl
theorem enumL_in {α : Type} : ∀ {k : Nat} {xs : List α} {i : Nat} {x : α}, xs[i]? = some x → (k + i, x) ∈ enumL k xs
  | _, [], _, _, h => by simp at h
  | k, y :: xs, 0, x, h => by
    have e : y = x := Option.some.inj h
    subst e
    exact List.mem_cons_self ..
  | k, y :: xs, i + 1, x, h => by
    have q := enumL_in (k := k + 1) (xs := xs) (i := i) (x := x) h
    rw [show k + (i + 1) = k + 1 + i by omega]
    exact List.mem_cons_of_mem _ q
theorem up_in {ts : List Tel} {i : Nat} {t : Tel} {h : Rat} (ht : ts[i]? = some t) (hh : t.high = some h) : (⟨t.one, t.other, h, i, 1⟩ : Step) ∈ stepsOf ts := by
  refine List.mem_flatMap.mpr ⟨(0 + i, t), enumL_in ht, ?_⟩
  unfold stepsAt
  rw [Nat.zero_add, hh]
  exact List.mem_append_left _ (List.mem_singleton.mpr rfl)
theorem down_in {ts : List Tel} {i : Nat} {t : Tel} {l : Rat} (ht : ts[i]? = some t) (hh : t.low = some l) : (⟨t.other, t.one, -l, i, -1⟩ : Step) ∈ stepsOf ts := by
  refine List.mem_flatMap.mpr ⟨(0 + i, t), enumL_in ht, ?_⟩
  unfold stepsAt
  rw [Nat.zero_add, hh]
  exact List.mem_append_right _ (List.mem_singleton.mpr rfl)
theorem Fit.lt {ts : List Tel} {s : Step} (h : Fit ts s) : s.num < ts.length := by
  cases h with
  | up t h => exact (List.getElem?_eq_some_iff.mp h).1
  | down t h => exact (List.getElem?_eq_some_iff.mp h).1
theorem Fit.sgn {ts : List Tel} {s : Step} (h : Fit ts s) : s.sgn = 1 ∨ s.sgn = -1 := by
  cases h with
  | up t h h1 => exact .inl h1
  | down t h h1 => exact .inr h1
theorem chain_mem {S : List Step} : ∀ {b : Nat} {ws : List Step}, Chain S b ws → ∀ s ∈ ws, s ∈ S
  | _, [], _, s, h => by cases h
  | b, w :: ws, h, s, hs => by
    rcases List.mem_cons.mp hs with rfl | hs
    · exact h.1
    · exact chain_mem h.2.2 s hs
structure StepOk (D M : Nat) (s : Step) : Prop where
  one : s.one < 6
  other : s.other < 6
  gr : Gr D M s.long
theorem stepsOk {D M : Nat} {ts : List Tel} (h : Tels D M ts) : ∀ s ∈ stepsOf ts, StepOk D M s := fun s hs => by
  cases fit_of hs with
  | up t ht h1 h2 h3 h4 =>
    have k := h.ok t (List.mem_of_getElem? ht)
    exact ⟨h2 ▸ k.one, h3 ▸ k.other, k.hi _ h4⟩
  | down t ht h1 h2 h3 l h4 h5 =>
    have k := h.ok t (List.mem_of_getElem? ht)
    exact ⟨h2 ▸ k.other, h3 ▸ k.one, h5 ▸ (k.lo _ h4).neg⟩
section
variable {P : Program} {w : World} {K : PySem.W.Frag} {mg : Str → Option Value} {base : Heap}
inductive R_keeps : List PyData → Res → Prop
  | mk {D M : Nat} {ts : List Tel} {row : List Rat} (z : Sz D M) (h : Tels D M ts) (g : RowOk D M row) : R_keeps [dTels ts, dRow row] (.dat (.bool ((ts.map fun t => kept t row).all id)))
theorem sc_keeps : FnScope ["tellings", "row", "telling"] ["tellings", "row"] (defScope s_keeps) := ⟨rfl, rfl, rfl, by decide +kernel, rfl, by decide +kernel, by decide +kernel⟩
theorem fn_keeps (T : Tx K mg) : Fn P w K mg base 5 "keeps" ["tellings", "row"] [] (spD K R_keeps) := by
  refine Fn.mk_ T m_keeps rfl g_keeps (fun _ _ _ _ _ _ us hl => match us, hl with | [_, _], _ => rfl) fun fd F => fn_body F sc_keeps (by rintro _ _ ⟨⟩; rfl) fun cdv A outer s H E hr ds r hR => ?_
  cases hR with
  | @mk D M ts row z h g =>
    exact sds_cons (sd_ret (pd_all rfl (pl_r (pl_lc (own := [("telling", 2)]) (lc_bool dTel ts (fun t => kept t row) (fun x hx => ⟨_, (fun _ _ _ _ _ => (gd_name 2 sc_keeps.nd)), (fun _ _ _ _ _ => qs_nil), fun _ _ _ _ _ _ => (pd_call (fn_is_kept T) hr (by decide) (pds_cons (pd_var 2) (pds_cons (pd_var 1) pds_nil)) (.mk z (h.ok x hx) g))⟩) (by have := h.len; omega) (id_tup (pd_var 0))) sc_keeps.nd (blkOk_by rfl))) T.all) rfl)
inductive R_first_broken : List PyData → Res → Prop
  | mk {D M : Nat} {ts : List Tel} {row : List Rat} (z : Sz D M) (h : Tels D M ts) (g : RowOk D M row) (g0 : row.getD 0 0 = 0) : R_first_broken [dTels ts, dRow row] (.dat (fbr row 0 ts))
theorem sc_first_broken : FnScope ["tellings", "row", "number", "telling"] ["tellings", "row"] (defScope s_first_broken) := ⟨rfl, rfl, rfl, by decide +kernel, rfl, by decide +kernel, by decide +kernel⟩
theorem ok_first_broken (T : Tx K mg) {ds : List V} {fd : FuncData} (F : FunD K d_first_broken.name d_first_broken.qual (defArgs d_first_broken.st) (defBody d_first_broken.st) (defScope d_first_broken.st) ds [] d_first_broken.f fd) : FnOk P w K mg base CX0 7 d_first_broken.f fd ["tellings", "row"] (spD K R_first_broken) := by
  refine fn_body F sc_first_broken (by rintro _ _ ⟨⟩; rfl) fun cdv A outer s H E hr ds r hR => ?_
  cases hR with
  | @mk D M ts row z h g g0 =>
    refine sds_cons (sd_expr (pd_call (fn_need_tellings T) hr (by decide) (pds_cons (pd_var 0) pds_nil) (.mk z h)) ?_)
    refine sds_cons (sd_expr (pd_call (fn_need_row T) hr (by decide) (pds_cons (pd_var 1) pds_nil) (.mk g.len g0)) ?_)
    refine sds_cons (sd_for (is := [2, 3]) (fun p : Nat × Tel => .tuple [.int p.1, dTel p.2]) (enumL 0 ts) (fun i M G D => D = [] ∧ (∃ a b, G = [.dat (dTels ts), .dat (dRow row), a, b]) ∧ fbr row i (ts.drop i) = fbr row 0 ts) (by rw [← enums_map]; exact id_enum (pd_var 0) T.enumerate) ?_ (fun i x M G D hx hP => ?_) (fun M G D hP => ?_))
    · exact ⟨rfl, ⟨_, _, rfl⟩, rfl⟩
    · obtain ⟨rfl, ⟨a, b, rfl⟩, he⟩ := hP
      obtain ⟨hi, ht⟩ := enumL_get hx
      rw [Nat.zero_add] at hi
      rw [drop_get ht] at he
      refine ⟨_, (gd_tup (gds_cons (gd_name 2 sc_first_broken.nd) (gds_cons (gd_name 3 sc_first_broken.nd) gds_nil))), ?_⟩
      refine sds_cons (sd_if (pq_not (pq_val (pd_call (fn_is_kept T) hr (by decide) (pds_cons (pd_var 3) (pds_cons (pd_var 1) pds_nil)) (.mk z (h.ok x.2 (List.mem_of_getElem? ht)) g)))) (fun h1 => ?_) (fun h1 => sds_nil ?_))
      · refine sds_cons (sd_ret (pd_var 2) ?_)
        have hk : kept x.2 row = false := by simpa using h1
        rw [fbr, hk, if_neg Bool.false_ne_true] at he
        rw [← he, hi] <;> rfl
      · have hk : kept x.2 row = true := by simpa using h1
        rw [fbr, hk, if_pos rfl] at he
        exact sds_nil ⟨rfl, ⟨_, _, rfl⟩, he⟩
    · obtain ⟨rfl, ⟨a, b, rfl⟩, he⟩ := hP
      refine sds_cons (sd_ret pd_non ?_)
      rw [← he, enumL_len, List.drop_length] <;> rfl
theorem fn_first_broken (T : Tx K mg) : Fn P w K mg base 7 "first_broken" ["tellings", "row"] [] (spD K R_first_broken) := Fn.mk_ T m_first_broken rfl g_first_broken (fun _ _ _ _ _ _ us hl => match us, hl with | [_, _], _ => rfl) fun fd F => ok_first_broken T F
theorem fk_first_broken (T : Tx K mg) : FnK P w K mg base 7 "first_broken" ["tellings", "row"] ["row", "tellings"] List.reverse (spD K R_first_broken) := FnK.mk_ T m_first_broken rfl g_first_broken (fun _ _ _ _ _ _ ws hl => match ws, hl with | [_, _], _ => rfl) fun fd F => ok_first_broken T F
inductive R_steps_of : List PyData → Res → Prop
  | mk {ts : List Tel} (h : ts.length ≤ 100) : R_steps_of [dTels ts] (.lst ((stepsOf ts).map dStep))
theorem sc_steps_of : FnScope ["tellings", "found", "number", "one", "other", "low", "high"] ["tellings"] (defScope s_steps_of) := ⟨rfl, rfl, rfl, by decide +kernel, rfl, by decide +kernel, by decide +kernel⟩
theorem fn_steps_of (T : Tx K mg) : Fn P w K mg base 2 "steps_of" ["tellings"] [] (spD K R_steps_of) := by
  refine Fn.mk_ T m_steps_of rfl g_steps_of (fun _ _ _ _ _ _ us hl => match us, hl with | [_], _ => rfl) fun fd F => fn_body F sc_steps_of (by rintro _ _ ⟨⟩; rfl) fun cdv A outer s H E hr ds r hR => ?_
  cases hR with
  | @mk ts h =>
    refine sds_cons (sd_asgL 1 sc_steps_of.nd (pl_lst pds_nil) fun l1 => ?_)
    refine sds_cons (sd_for (is := [2, 3, 4, 5, 6]) (fun p : Nat × Tel => .tuple [.int p.1, dTel p.2]) (enumL 0 ts) (fun i M G D => M = [l1] ∧ D = [(l1, (((enumL 0 ts).take i).flatMap stepsAt).map dStep)] ∧ ∃ a b c d e, G = [.dat (dTels ts), .ref l1, a, b, c, d, e]) (by rw [← enums_map]; exact id_enum (pd_var 0) T.enumerate) ?_ (fun i x M G D hx hP => ?_) (fun M G D hP => ?_))
    · exact ⟨rfl, rfl, _, _, _, _, _, rfl⟩
    · obtain ⟨rfl, rfl, a, b, c, d, e, rfl⟩ := hP
      have hz : ((((enumL 0 ts).take i).flatMap stepsAt).map dStep).length ≤ 200 := by
        rw [List.length_map]
        have h1 := flat_len stepsAt_len ((enumL 0 ts).take i)
        have h2 : ((enumL 0 ts).take i).length ≤ ts.length := by rw [List.length_take, enumL_len]; omega
        omega
      rw [flat_take hx]
      refine ⟨_, (gd_tup (gds_cons (gd_name 2 sc_steps_of.nd) (gds_cons (gd_tup (gds_cons (gd_name 3 sc_steps_of.nd) (gds_cons (gd_name 4 sc_steps_of.nd) (gds_cons (gd_name 5 sc_steps_of.nd) (gds_cons (gd_name 6 sc_steps_of.nd) gds_nil))))) gds_nil))), ?_⟩
      rw [List.map_append]
      have hs := stepsAt.eq_1 x
      obtain ⟨n, t⟩ := x
      obtain ⟨o1, o2, low, high⟩ := t
      dsimp only at hs
      cases high with
      | some hh =>
        refine sds_cons (sd_if (pq_cmp (cd_notN (pd_var 6))) (fun h1 => ?_) (fun h1 => by cases h1))
        refine sds_cons (sd_app (D1 := []) 1 (pd_tup (pds_cons (pd_var 3) (pds_cons (pd_var 4) (pds_cons (pd_var 6) (pds_cons (pd_var 2) (pds_cons pd_int pds_nil)))))) (by omega) (sds_nil ?_))
        cases low with
        | some ll =>
          refine sds_cons (sd_if (pq_cmp (cd_notN (pd_var 5))) (fun h2 => ?_) (fun h1 => by cases h1))
          refine sds_cons (sd_app (D1 := []) 1 (pd_tup (pds_cons (pd_var 4) (pds_cons (pd_var 3) (pds_cons (pd_call (fn_turned T) hr (by decide) (pds_cons (pd_var 5) pds_nil) .mk) (pds_cons (pd_var 2) (pds_cons (pd_neg pd_int) pds_nil)))))) (by rw [List.length_append]; simp only [List.length_cons, List.length_nil]; omega) ?_)
          refine sds_nil (sds_nil ⟨rfl, ?_, _, _, _, _, _, rfl⟩)
          rw [hs, List.append_assoc] <;> rfl
        | none =>
          refine sds_cons (sd_if (pq_cmp (cd_notN (pd_var 5))) (fun h1 => by cases h1) (fun h2 => ?_))
          refine sds_nil (sds_nil ⟨rfl, ?_, _, _, _, _, _, rfl⟩)
          rw [hs] <;> rfl
      | none =>
        refine sds_cons (sd_if (pq_cmp (cd_notN (pd_var 6))) (fun h1 => by cases h1) (fun h1 => sds_nil ?_))
        cases low with
        | some ll =>
          refine sds_cons (sd_if (pq_cmp (cd_notN (pd_var 5))) (fun h2 => ?_) (fun h1 => by cases h1))
          refine sds_cons (sd_app (D1 := []) 1 (pd_tup (pds_cons (pd_var 4) (pds_cons (pd_var 3) (pds_cons (pd_call (fn_turned T) hr (by decide) (pds_cons (pd_var 5) pds_nil) .mk) (pds_cons (pd_var 2) (pds_cons (pd_neg pd_int) pds_nil)))))) (by omega) ?_)
          refine sds_nil (sds_nil ⟨rfl, ?_, _, _, _, _, _, rfl⟩)
          rw [hs] <;> rfl
        | none =>
          refine sds_cons (sd_if (pq_cmp (cd_notN (pd_var 5))) (fun h1 => by cases h1) (fun h2 => ?_))
          refine sds_nil (sds_nil ⟨rfl, ?_, _, _, _, _, _, rfl⟩)
          rw [hs, List.map_append] <;> simp
    · obtain ⟨rfl, rfl, a, b, c, d, e, rfl⟩ := hP
      rw [List.take_length]
      exact sds_cons (sd_retV (ds := (stepsOf ts).map dStep) 1 rfl (hp := List.mem_cons_self ..))
end
end Gk
end

section
set_option linter.all false
set_option maxRecDepth 100000
namespace Gk
open PySem PySem.Spec PyProof.Rows L2 Evl
section
variable {P : Program} {w : World} {K : PySem.W.Frag} {mg : Str → Option Value} {base : Heap}
inductive R_is_step : List PyData → Res → Prop
  | mk {ts : List Tel} {s : Step} (h : Fit ts s) : R_is_step [dTels ts, .tuple [.int s.num, .int s.sgn]] (.dat (.bool true))
theorem sc_is_step : FnScope ["tellings", "thing"] ["tellings", "thing"] (defScope s_is_step) := ⟨rfl, rfl, rfl, by decide +kernel, rfl, by decide +kernel, by decide +kernel⟩
theorem R_is_from_to.nat {n : Nat} {j : Int} (h : (n : Int) ≤ j) : R_is_from_to [.int n, .int 0, .int j] (.dat (.bool true)) := by
  rw [← inB_nat (n := n) (i := 0) (j := j) (by omega) h]
  exact .mk
theorem fn_is_step (T : Tx K mg) : Fn P w K mg base 3 "is_step" ["tellings", "thing"] [] (spD K R_is_step) := by
  refine Fn.mk_ T m_is_step rfl g_is_step (fun _ _ _ _ _ _ us hl => match us, hl with | [_, _], _ => rfl) fun fd F => fn_body F sc_is_step (by rintro _ _ ⟨⟩; rfl) fun cdv A outer s H E hr ds r hR => ?_
  cases hR with
  | @mk ts st h =>
    have hlt := h.lt
    refine sds_cons (sd_if (wq_q (wq_or (pq_not (pq_val (pd_isT T.toTxt (pd_var 1)))) fun h1 => (wq_or (pq_cmp (cd_ne' hr (pd_lenT (pd_var 1) T.len) pd_int)) fun h2 => (wq_or1 (pq_not (pq_val (pd_call (fn_is_from_to T) hr (by decide) (pds_cons (pd_ix (pd_var 1) pd_int) (pds_cons pd_int (pds_cons (pd_sub (pd_lenT (pd_var 0) T.len) pd_int) pds_nil))) (.nat (by rw [List.length_map]; omega))))))))) (fun h3 => by cases h3) (fun h3 => sds_nil ?_))
    refine sds_cons (sd_ret (pd_and (pd_call (fn_is_from_to T) hr (by decide) (pds_cons (pd_ix (pd_var 1) pd_int) (pds_cons (pd_neg pd_int) (pds_cons pd_int pds_nil))) .mk) fun h4 => (pd_one (pd_cmp (cd_ne' hr (pd_ix (pd_var 1) pd_int) pd_int)))) ?_)
    rcases h.sgn with e | e <;> rw [e] <;> rfl
inductive R_walked : List PyData → Res → Prop
  | mk {D M : Nat} {ts : List Tel} {b : Nat} {ws : List Step} (z : Sz D M) (h : Tels D M ts) (hc : Chain (stepsOf ts) b ws) (hl : ws.length ≤ 60) : R_walked [dTels ts, .int b, dWay ws] (.dat (.tuple [.int (endOf b ws), dP (sumF 0 ws)]))
theorem sc_walked : FnScope ["tellings", "clock", "thing", "one", "at", "long", "number", "sign", "other", "low", "high", "begin", "end", "bound"] ["tellings", "clock", "thing"] (defScope s_walked) := ⟨rfl, rfl, rfl, by decide +kernel, rfl, by decide +kernel, by decide +kernel⟩
theorem at_get {α : Type} {f : α → PyData} {xs : List α} {n : Nat} {z : α} (h : xs[n]? = some z) : atI (xs.map f) (n : Int) = some (f z) := by
  have hl := (List.getElem?_eq_some_iff.mp h).1
  rw [at_map (z := z) hl]
  simp [List.getD, h]
set_option maxHeartbeats 1000000 in
theorem fn_walked (T : Tx K mg) : Fn P w K mg base 4 "walked" ["tellings", "clock", "thing"] [] (spD K R_walked) := by
  refine Fn.mk_ T m_walked rfl g_walked (fun _ _ _ _ _ _ us hl => match us, hl with | [_, _, _], _ => rfl) fun fd F => fn_body F sc_walked (by rintro _ _ ⟨⟩; rfl) fun cdv A outer s H E hr ds r hR => ?_
  cases hR with
  | @mk D0 M0 ts b ws z h hc hl =>
    refine sds_cons (sd_if (wq_q (wq_or (pq_not (pq_val (pd_isT T.toTxt (pd_var 2)))) fun h1 => (wq_or (pq_cmp (cd_gt (pd_lenT (pd_var 2) T.len) (k_MOST_STEPS T))) fun h2 => (wq_or1 (pq_not (pq_val (pd_all rfl (pl_r (pl_lc (own := [("one", 3)]) (lc_bool (fun s : Step => .tuple [.int s.num, .int s.sgn]) ws (fun _ => true) (fun x hx => ⟨_, (fun _ _ _ _ _ => (gd_name 3 sc_walked.nd)), (fun _ _ _ _ _ => qs_nil), fun _ _ _ _ _ _ => (pd_call (fn_is_step T) hr (by decide) (pds_cons (pd_var 0) (pds_cons (pd_var 3) pds_nil)) (.mk (fit_of (chain_mem hc x hx))))⟩) (by omega) (id_tup (pd_var 2))) sc_walked.nd (blkOk_by rfl))) T.all))))))) (fun h3 => ?_) (fun h3 => sds_nil ?_))
    · rw [all_true, List.length_map, decide_eq_false (by omega)] at h3
      cases h3
    refine sds_cons (sd_par 4 5 sc_walked.nd (pd_var 1) (k_NOUGHT T) ?_)
    refine sds_cons (sd_for (is := [6, 7]) (fun s : Step => .tuple [.int s.num, .int s.sgn]) ws (fun i M G D => D = [] ∧ ∃ (at_ : Nat) (x : Rat) (a6 a7 a3 a8 a9 a10 a11 a12 a13 : Slot), G = [.dat (dTels ts), .dat (.int b), .dat (dWay ws), a3, .dat (.int at_), .dat (dP x), a6, a7, a8, a9, a10, a11, a12, a13] ∧
      Chain (stepsOf ts) at_ (ws.drop i) ∧ endOf at_ (ws.drop i) = endOf b ws ∧ sumF x (ws.drop i) = sumF 0 ws ∧ Gr D0 (i * M0) x) (id_tup (pd_var 2)) ?_ (fun i x M G D hx hP => ?_) (fun M G D hP => ?_))
    · exact ⟨rfl, b, 0, _, _, _, _, _, _, _, _, _, rfl, hc, rfl, rfl, Gr.zero⟩
    · obtain ⟨rfl, at_, v, a6, a7, a3, a8, a9, a10, a11, a12, a13, rfl, c1, c2, c3, c4⟩ := hP
      have hi : i < ws.length := (List.getElem?_eq_some_iff.mp hx).1
      rw [drop_get hx] at c1 c2 c3
      obtain ⟨d1, d2, d3⟩ := c1
      have sv : Sm v := z.sm 60 (c4.mono (Nat.mul_le_mul (by omega) (Nat.le_refl _)))
      have gx := (stepsOk h x d1).gr
      have hg : Gr D0 ((i + 1) * M0) (v + x.long) := by
        have := c4.add gx
        rw [Nat.add_mul, Nat.one_mul]
        exact this
      refine ⟨_, (gd_tup (gds_cons (gd_name 6 sc_walked.nd) (gds_cons (gd_name 7 sc_walked.nd) gds_nil))), ?_⟩
      cases fit_of d1 with
      | up t ht e1 e2 e3 e4 =>
        have q1 : PyData.eqv (.int x.sgn) (.int 1) = true := by rw [e1] <;> rfl
        have q2 : (!PyData.eqv (.int (t.one : Nat)) (.int at_)) = false := by rw [eqv_nat, ← e2, d2, decide_eq_true rfl] <;> rfl
        refine sds_cons (sd_asgT (pd_ix (pd_var 0) (pd_var 6) (at_get (f := dTel) ht)) (gd_tup (gds_cons (gd_name 3 sc_walked.nd) (gds_cons (gd_name 8 sc_walked.nd) (gds_cons (gd_name 9 sc_walked.nd) (gds_cons (gd_name 10 sc_walked.nd) gds_nil))))) ?_)
        refine sds_cons (sd_asgT (d := .tuple [.int t.one, .int t.other, dO t.high]) (pd_ifExp (p := true) (pq_cmp (cd_eqV q1 hr (pd_var 7) pd_int)) (fun h4 => (pd_tup (pds_cons (pd_var 3) (pds_cons (pd_var 8) (pds_cons (pd_var 10) pds_nil))))) (fun h5 => by cases h5)) (gd_tup (gds_cons (gd_name 11 sc_walked.nd) (gds_cons (gd_name 12 sc_walked.nd) (gds_cons (gd_name 13 sc_walked.nd) gds_nil)))) ?_)
        rw [e4]
        refine sds_cons (sd_if (b := false) (wq_q (wq_or (p := false) (pq_cmp (cd_neV q2 hr (pd_var 11) (pd_var 4))) fun h6 => (wq_or1 (pq_cmp (cd_isN (d := dP x.long) (pd_var 13)))))) (fun h7 => by cases h7) (fun h7 => sds_nil ?_))
        refine sds_cons (sd_asg 4 sc_walked.nd (pd_var 12) ?_)
        refine sds_cons (sd_asg 5 sc_walked.nd (pd_ifExp (p := true) (d := dP (v + x.long)) (pq_cmp (cd_eqV q1 hr (pd_var 7) pd_int)) (fun h8 => (pd_call (fn_plus T) hr (by decide) (pds_cons (pd_var 5) (pds_cons (pd_var 13) pds_nil)) (.mk sv (z.sm1 gx)))) (fun h9 => by cases h9)) ?_)
        rw [← e3]
        exact sds_nil ⟨rfl, x.other, v + x.long, _, _, _, _, _, _, _, _, _, rfl, d3, c2, c3, hg⟩
      | down t ht e1 e2 e3 l e4 e5 =>
        have q1 : PyData.eqv (.int x.sgn) (.int 1) = false := by rw [e1] <;> rfl
        have q2 : (!PyData.eqv (.int (t.other : Nat)) (.int at_)) = false := by rw [eqv_nat, ← e2, d2, decide_eq_true rfl] <;> rfl
        have gl : Sm l := by
          have := z.sm1 gx.neg
          rw [e5, Rat.neg_neg] at this
          exact this
        refine sds_cons (sd_asgT (pd_ix (pd_var 0) (pd_var 6) (at_get (f := dTel) ht)) (gd_tup (gds_cons (gd_name 3 sc_walked.nd) (gds_cons (gd_name 8 sc_walked.nd) (gds_cons (gd_name 9 sc_walked.nd) (gds_cons (gd_name 10 sc_walked.nd) gds_nil))))) ?_)
        refine sds_cons (sd_asgT (d := .tuple [.int t.other, .int t.one, dO t.low]) (pd_ifExp (p := false) (pq_cmp (cd_eqV q1 hr (pd_var 7) pd_int)) (fun h4 => by cases h4) (fun h5 => (pd_tup (pds_cons (pd_var 8) (pds_cons (pd_var 3) (pds_cons (pd_var 9) pds_nil)))))) (gd_tup (gds_cons (gd_name 11 sc_walked.nd) (gds_cons (gd_name 12 sc_walked.nd) (gds_cons (gd_name 13 sc_walked.nd) gds_nil)))) ?_)
        rw [e4]
        refine sds_cons (sd_if (b := false) (wq_q (wq_or (p := false) (pq_cmp (cd_neV q2 hr (pd_var 11) (pd_var 4))) fun h6 => (wq_or1 (pq_cmp (cd_isN (d := dP l) (pd_var 13)))))) (fun h7 => by cases h7) (fun h7 => sds_nil ?_))
        refine sds_cons (sd_asg 4 sc_walked.nd (pd_var 12) ?_)
        refine sds_cons (sd_asg 5 sc_walked.nd (pd_ifExp (p := false) (d := dP (v - l)) (pq_cmp (cd_eqV q1 hr (pd_var 7) pd_int)) (fun h8 => by cases h8) (fun h9 => (pd_call (fn_minus T) hr (by decide) (pds_cons (pd_var 5) (pds_cons (pd_var 13) pds_nil)) (.mk sv gl)))) ?_)
        have e6 : v - l = v + x.long := by rw [e5, Rat.sub_eq_add_neg]
        rw [← e3, e6]
        exact sds_nil ⟨rfl, x.other, v + x.long, _, _, _, _, _, _, _, _, _, rfl, d3, c2, c3, hg⟩
    · obtain ⟨rfl, at_, v, a6, a7, a3, a8, a9, a10, a11, a12, a13, rfl, c1, c2, c3, c4⟩ := hP
      rw [List.drop_length] at c2 c3
      refine sds_cons (sd_ret (pd_tup (pds_cons (pd_var 4) (pds_cons (pd_var 5) pds_nil))) ?_)
      rw [← c2, ← c3] <;> rfl
inductive R_ring_holds : List PyData → Res → Prop
  | no {d : PyData} : R_ring_holds [d, .tuple []] (.dat (.bool false))
theorem sc_ring_holds : FnScope ["tellings", "thing", "found"] ["tellings", "thing"] (defScope s_ring_holds) := ⟨rfl, rfl, rfl, by decide +kernel, rfl, by decide +kernel, by decide +kernel⟩
theorem fn_ring_holds (T : Tx K mg) : Fn P w K mg base 5 "ring_holds" ["tellings", "thing"] [] (spD K R_ring_holds) := by
  refine Fn.mk_ T m_ring_holds rfl g_ring_holds (fun _ _ _ _ _ _ us hl => match us, hl with | [_, _], _ => rfl) fun fd F => fn_body F sc_ring_holds (by rintro _ _ ⟨⟩; rfl) fun cdv A outer s H E hr ds r hR => ?_
  cases hR with
  | no =>
    exact sds_cons (sd_if (wq_q (wq_or (pq_not (pq_val (pd_isT T.toTxt (pd_var 1)))) fun h1 => (wq_or (q := true) (pq_cmp (cd_ne' hr (pd_lenT (pd_var 1) T.len) pd_int)) fun h2 => by cases h2))) (fun h4 => sds_cons (sd_ret pd_bl rfl)) (fun h4 => by cases h4))
inductive R_way_of : List PyData → Res → Prop
  | mk {D M : Nat} {ts : List Tel} {b : Nat} {ws : List Step} (z : Sz D M) (h : Tels D M ts) (hb : b < 6) (hc : Chain (stepsOf ts) b ws) (hl : ws.length ≤ 60) : R_way_of [dTels ts, .int b, dWay ws] (.dat (.tuple [.int (endOf b ws), dP (sumF 0 ws)]))
theorem sc_way_of : FnScope ["tellings", "clock", "thing"] ["tellings", "clock", "thing"] (defScope s_way_of) := ⟨rfl, rfl, rfl, by decide +kernel, rfl, by decide +kernel, by decide +kernel⟩
theorem ok_way_of (T : Tx K mg) {ds : List V} {fd : FuncData} (F : FunD K d_way_of.name d_way_of.qual (defArgs d_way_of.st) (defBody d_way_of.st) (defScope d_way_of.st) ds [] d_way_of.f fd) : FnOk P w K mg base CX0 7 d_way_of.f fd ["tellings", "clock", "thing"] (spD K R_way_of) := by
  refine fn_body F sc_way_of (by rintro _ _ ⟨⟩; rfl) fun cdv A outer s H E hr ds r hR => ?_
  cases hR with
  | mk z h hb hc hl =>
    refine sds_cons (sd_expr (pd_call (fn_need_tellings T) hr (by decide) (pds_cons (pd_var 0) pds_nil) (.mk z h)) ?_)
    refine sds_cons (sd_expr (pd_call (fn_need_clock_number T) hr (by decide) (pds_cons (pd_var 1) pds_nil) (.mk hb)) ?_)
    exact sds_cons (sd_ret (pd_call (fn_walked T) hr (by decide) (pds_cons (pd_var 0) (pds_cons (pd_var 1) (pds_cons (pd_var 2) pds_nil))) (.mk z h hc hl)) rfl)
theorem fn_way_of (T : Tx K mg) : Fn P w K mg base 7 "way_of" ["tellings", "clock", "thing"] [] (spD K R_way_of) := Fn.mk_ T m_way_of rfl g_way_of (fun _ _ _ _ _ _ us hl => match us, hl with | [_, _, _], _ => rfl) fun fd F => ok_way_of T F
theorem fk_way_of (T : Tx K mg) : FnK P w K mg base 7 "way_of" ["tellings", "clock", "thing"] ["thing", "clock", "tellings"] List.reverse (spD K R_way_of) := FnK.mk_ T m_way_of rfl g_way_of (fun _ _ _ _ _ _ ws hl => match ws, hl with | [_, _, _], _ => rfl) fun fd F => ok_way_of T F
inductive R_is_ring : List PyData → Res → Prop
  | no {D M : Nat} {ts : List Tel} (z : Sz D M) (h : Tels D M ts) : R_is_ring [dTels ts, .tuple []] (.dat (.bool false))
theorem sc_is_ring : FnScope ["tellings", "thing"] ["tellings", "thing"] (defScope s_is_ring) := ⟨rfl, rfl, rfl, by decide +kernel, rfl, by decide +kernel, by decide +kernel⟩
theorem ok_is_ring (T : Tx K mg) {ds : List V} {fd : FuncData} (F : FunD K d_is_ring.name d_is_ring.qual (defArgs d_is_ring.st) (defBody d_is_ring.st) (defScope d_is_ring.st) ds [] d_is_ring.f fd) : FnOk P w K mg base CX0 7 d_is_ring.f fd ["tellings", "thing"] (spD K R_is_ring) := by
  refine fn_body F sc_is_ring (by rintro _ _ ⟨⟩; rfl) fun cdv A outer s H E hr ds r hR => ?_
  cases hR with
  | no z h =>
    refine sds_cons (sd_expr (pd_call (fn_need_tellings T) hr (by decide) (pds_cons (pd_var 0) pds_nil) (.mk z h)) ?_)
    exact sds_cons (sd_ret (pd_call (fn_ring_holds T) hr (by decide) (pds_cons (pd_var 0) (pds_cons (pd_var 1) pds_nil)) .no) rfl)
theorem fk_is_ring (T : Tx K mg) : FnK P w K mg base 7 "is_ring" ["tellings", "thing"] ["thing", "tellings"] List.reverse (spD K R_is_ring) := FnK.mk_ T m_is_ring rfl g_is_ring (fun _ _ _ _ _ _ ws hl => match ws, hl with | [_, _], _ => rfl) fun fd F => ok_is_ring T F
end
end Gk
end

section
set_option linter.all false
set_option maxRecDepth 100000
namespace Gk
/-! ## the shortest ways, as they are reckoned -/
abbrev Ent := Option (Rat × List Step)
abbrev Fnd := List Ent
abbrev gt (f : Fnd) (v : Nat) : Ent := f.getD v none
def relax1 (st : Fnd × Option Nat) (s : Step) : Fnd × Option Nat :=
  match gt st.1 s.one with
  | none => st
  | some (x, ws) => match gt st.1 s.other with
    | none => (st.1.set s.other (some (x + s.long, ws ++ [s])), some s.other)
    | some (y, _) => if x + s.long < y then (st.1.set s.other (some (x + s.long, ws ++ [s])), some s.other) else st
def bfInit (b : Nat) : Fnd := (List.replicate 6 none).set b (some (0, []))
def bfN (S : List Step) (b : Nat) : Nat → Fnd × Option Nat
  | 0 => (bfInit b, none)
  | k + 1 => S.foldl relax1 ((bfN S b k).1, none)
def Relaxed (f : Fnd) (s : Step) : Prop := ∀ x ws, gt f s.one = some (x, ws) → ∃ y ws', gt f s.other = some (y, ws') ∧ y ≤ x + s.long
theorem gt_set {f : Fnd} {i j : Nat} {e : Ent} (h : i < f.length) : gt (f.set i e) j = if i = j then e else gt f j := by
  unfold gt
  rw [List.getD_eq_getElem?_getD, List.getD_eq_getElem?_getD, List.getElem?_set]
  by_cases hij : i = j
  · subst hij
    simp [h]
  · simp [hij]
theorem relax_cases (f : Fnd) (n : Option Nat) (s : Step) : (relax1 (f, n) s = (f, n) ∧ Relaxed f s) ∨
    ∃ x ws, gt f s.one = some (x, ws) ∧ (∀ y ws', gt f s.other = some (y, ws') → x + s.long < y) ∧ relax1 (f, n) s = (f.set s.other (some (x + s.long, ws ++ [s])), some s.other) := by
  unfold relax1 Relaxed
  cases h1 : gt f s.one with
  | none => exact .inl ⟨rfl, (fun x ws h => by cases h)⟩
  | some e =>
    obtain ⟨x, ws⟩ := e
    cases h2 : gt f s.other with
    | none => exact .inr ⟨x, ws, rfl, (fun y ws' h => by cases h), rfl⟩
    | some e2 =>
      obtain ⟨y, ws2⟩ := e2
      by_cases h3 : x + s.long < y
      · refine .inr ⟨x, ws, rfl, fun y' ws' h => ?_, ?_⟩
        · cases h
          exact h3
        · simp only [h3, if_true]
      · refine .inl ⟨?_, fun x' ws' h => ?_⟩
        · simp only [h3, if_false]
        · cases h
          exact ⟨y, ws2, rfl, Rat.not_lt.mp h3⟩
theorem relax_len (st : Fnd × Option Nat) (s : Step) : (relax1 st s).1.length = st.1.length := by
  rcases relax_cases st.1 st.2 s with h | ⟨x, ws, _, _, h⟩
  · rw [show st = (st.1, st.2) from rfl, h.1]
  · rw [show st = (st.1, st.2) from rfl, h]
    simp
theorem fold_len : ∀ (S : List Step) (st : Fnd × Option Nat), (S.foldl relax1 st).1.length = st.1.length
  | [], st => rfl
  | s :: S, st => by rw [List.foldl_cons, fold_len S, relax_len]
theorem bfN_len (S : List Step) (b : Nat) : ∀ k, (bfN S b k).1.length = 6
  | 0 => by unfold bfN bfInit; simp
  | k + 1 => by rw [bfN, fold_len]; exact bfN_len S b k
theorem gt_init {b v : Nat} (hb : b < 6) : gt (bfInit b) v = if b = v then some (0, []) else none := by
  unfold bfInit
  rw [gt_set (by simp; exact hb)]
  by_cases h : b = v
  · simp [h]
  · rw [if_neg h, if_neg h]
    show (List.replicate 6 (none : Ent)).getD v none = none
    rw [List.getD_eq_getElem?_getD, List.getElem?_replicate]
    split <;> rfl
/-! ### lists without repeats -/
theorem nodup_len {α : Type} [BEq α] [LawfulBEq α] : ∀ {l m : List α}, l.Nodup → (∀ x ∈ l, x ∈ m) → l.length ≤ m.length
  | [], m, _, _ => Nat.zero_le _
  | a :: l, m, hn, hs => by
    have hn' := List.nodup_cons.mp hn
    have ha : a ∈ m := hs a (List.mem_cons_self ..)
    have h1 : l.length ≤ (m.erase a).length := nodup_len hn'.2 fun x hx => (List.mem_erase_of_ne (fun z => hn'.1 (by rw [← z]; exact hx))).mpr (hs x (List.mem_cons_of_mem _ hx))
    rw [List.length_erase_of_mem ha] at h1
    have : 0 < m.length := List.length_pos_of_mem ha
    rw [List.length_cons]
    omega
theorem nodup_six {l : List Nat} (hn : l.Nodup) (hs : ∀ x ∈ l, x < 6) : l.length ≤ 6 := by
  have := nodup_len (m := List.range 6) hn fun x hx => List.mem_range.mpr (hs x hx)
  rw [List.length_range] at this
  exact this
theorem full_six {l : List Nat} (hn : l.Nodup) (hs : ∀ x ∈ l, x < 6) (hl : l.length = 6) {w : Nat} (hw : w < 6) : w ∈ l := by
  refine Decidable.byContradiction fun h => ?_
  have := nodup_six (l := w :: l) (List.nodup_cons.mpr ⟨h, hn⟩) fun x hx => by
    rcases List.mem_cons.mp hx with rfl | hx
    · exact hw
    · exact hs x hx
  rw [List.length_cons] at this
  omega
theorem has_min {α : Type} (g : α → Rat) : ∀ {l : List α}, l ≠ [] → ∃ m ∈ l, ∀ x ∈ l, g m ≤ g x
  | [], h => absurd rfl h
  | [a], _ => ⟨a, List.mem_cons_self .., fun x hx => by
    rw [List.mem_singleton.mp hx]
    exact Rat.le_refl⟩
  | a :: b :: l, _ => by
    obtain ⟨m, hm, h⟩ := has_min g (l := b :: l) (by simp)
    by_cases q : g a ≤ g m
    · exact ⟨a, List.mem_cons_self .., fun x hx => by
        rcases List.mem_cons.mp hx with rfl | hx
        · exact Rat.le_refl
        · exact Rat.le_trans q (h x hx)⟩
    · refine ⟨m, List.mem_cons_of_mem _ hm, fun x hx => ?_⟩
      rcases List.mem_cons.mp hx with rfl | hx
      · exact Rat.le_of_lt (Rat.not_le.mp q)
      · exact h x hx
/-! ### no step gets nearer in the sixth turn -/
section
variable {S : List Step} {p : Nat → Rat}
structure Pot (S : List Step) (p : Nat → Rat) : Prop where
  le : ∀ s ∈ S, p s.other ≤ p s.one + s.long
  one : ∀ s ∈ S, s.one < 6
  other : ∀ s ∈ S, s.other < 6
structure Dij (S : List Step) (p : Nat → Rat) (f : Fnd) (T : List Nat) (v : Nat) (P : Step → Prop) : Prop where
  len : f.length = 6
  mem : v ∈ T
  a : ∀ u ∈ T, ∃ x ws, gt f u = some (x, ws)
  m : ∀ u ∈ T, ∀ x ws y ws', gt f u = some (x, ws) → gt f v = some (y, ws') → x - p u ≤ y - p v
  c : ∀ u, u ∉ T → ∀ x ws y ws', gt f u = some (x, ws) → gt f v = some (y, ws') → y - p v ≤ x - p u
  b : ∀ s ∈ S, s.one ∈ T → (s.one ≠ v ∨ P s) → Relaxed f s
theorem Dij.out {f : Fnd} {T : List Nat} {v : Nat} {P : Step → Prop} (hp : Pot S p) (D : Dij S p f T v P) {s : Step} (hs : s ∈ S) {x : Rat} {ws : List Step} (h1 : gt f s.one = some (x, ws)) (h2 : ∀ y ws', gt f s.other = some (y, ws') → x + s.long < y) :
    s.other ∉ T ∧ ∀ y ws', gt f v = some (y, ws') → y - p v ≤ x + s.long - p s.other := by
  obtain ⟨yv, wv, hv⟩ := D.a v D.mem
  have hpot := hp.le s hs
  have low : s.one ∉ T ∨ s.one = v := by
    by_cases h : s.one ∈ T
    · refine .inr (Decidable.byContradiction fun hne => ?_)
      obtain ⟨y, ws', e, q⟩ := D.b s hs h (.inl hne) x ws h1
      have := h2 y ws' e
      grind
    · exact .inl h
  have key : yv - p v ≤ x - p s.one := by
    rcases low with h | h
    · exact D.c s.one h x ws yv wv h1 hv
    · rw [h] at h1 ⊢
      rw [hv] at h1
      have e := Option.some.inj h1
      rw [← (Prod.mk.inj e).1]
      exact Rat.le_refl
  refine ⟨fun ht => ?_, fun y ws' e => ?_⟩
  · obtain ⟨y, wy, hy⟩ := D.a s.other ht
    have h3 := D.m s.other ht y wy yv wv hy hv
    have h4 := h2 y wy hy
    grind
  · rw [hv] at e
    have e' := Option.some.inj e
    rw [← (Prod.mk.inj e').1]
    grind
theorem Dij.step {f : Fnd} {T : List Nat} {v : Nat} {P : Step → Prop} (hp : Pot S p) (D : Dij S p f T v P) (n : Option Nat) {s : Step} (hs : s ∈ S) : Dij S p (relax1 (f, n) s).1 T v (fun q => P q ∨ q = s) := by
  rcases relax_cases f n s with ⟨h, hr⟩ | ⟨x, ws, h1, h2, h⟩
  · rw [h]
    refine ⟨D.len, D.mem, D.a, D.m, D.c, fun q hq ht hc => ?_⟩
    rcases hc with hc | hc | rfl
    · exact D.b q hq ht (.inl hc)
    · exact D.b q hq ht (.inr hc)
    · exact hr
  · obtain ⟨ho, hk⟩ := D.out hp hs h1 h2
    rw [h]
    have hl : s.other < f.length := by rw [D.len]; exact hp.other s hs
    have same : ∀ u, u ≠ s.other → gt (f.set s.other (some (x + s.long, ws ++ [s]))) u = gt f u := fun u hu => by
      rw [gt_set hl, if_neg fun z => hu z.symm]
    have here : gt (f.set s.other (some (x + s.long, ws ++ [s]))) s.other = some (x + s.long, ws ++ [s]) := by rw [gt_set hl, if_pos rfl]
    have inT : ∀ u ∈ T, u ≠ s.other := fun u hu z => ho (z ▸ hu)
    have vT := inT v D.mem
    show Dij S p (f.set s.other (some (x + s.long, ws ++ [s]))) T v _
    refine ⟨by rw [List.length_set]; exact D.len, D.mem, fun u hu => ?_, fun u hu => ?_, fun u hu a wa y wy ha hv => ?_, fun q hq ht hc => ?_⟩
    · rw [same u (inT u hu)]
      exact D.a u hu
    · rw [same u (inT u hu), same v vT]
      exact D.m u hu
    · rw [same v vT] at hv
      by_cases hu' : u = s.other
      · subst hu'
        rw [here] at ha
        have e := Option.some.inj ha
        rw [← (Prod.mk.inj e).1]
        exact hk y wy hv
      · rw [same u hu'] at ha
        exact D.c u hu a wa y wy ha hv
    · have old : (q.one ≠ v ∨ P q) → Relaxed (f.set s.other (some (x + s.long, ws ++ [s]))) q := fun hc' => by
        intro a wa ha
        rw [same q.one (inT _ ht)] at ha
        obtain ⟨y, wy, e, le⟩ := D.b q hq ht hc' a wa ha
        by_cases hu' : q.other = s.other
        · rw [hu', here]
          rw [hu'] at e
          exact ⟨_, _, rfl, by have := h2 y wy e; grind⟩
        · rw [same _ hu']
          exact ⟨y, wy, e, le⟩
      rcases hc with hc | hc | rfl
      · exact old (.inl hc)
      · exact old (.inr hc)
      · intro a wa ha
        rw [same q.one (inT _ ht), h1] at ha
        have e := Option.some.inj ha
        rw [here]
        exact ⟨_, _, rfl, by rw [(Prod.mk.inj e).1]; exact Rat.le_refl⟩
theorem Dij.weak {f : Fnd} {T : List Nat} {v : Nat} {P P' : Step → Prop} (D : Dij S p f T v P) (h : ∀ q, P' q → P q) : Dij S p f T v P' := ⟨D.len, D.mem, D.a, D.m, D.c, fun q hq ht hc => D.b q hq ht (hc.imp id (h q))⟩
theorem Dij.fold {T : List Nat} {v : Nat} (hp : Pot S p) : ∀ {S' : List Step} {f : Fnd} {n : Option Nat} {P : Step → Prop}, (∀ s ∈ S', s ∈ S) → Dij S p f T v P → Dij S p (S'.foldl relax1 (f, n)).1 T v (fun q => P q ∨ q ∈ S')
  | [], f, n, P, _, D => D.weak fun q hq => hq.elim id (fun z => by cases z)
  | s :: S', f, n, P, hs, D => by
    rw [List.foldl_cons]
    have D1 := D.step hp n (hs s (List.mem_cons_self ..))
    have := Dij.fold hp (S' := S') (n := (relax1 (f, n) s).2) (fun q hq => hs q (List.mem_cons_of_mem _ hq)) D1
    refine this.weak fun q hq => ?_
    rcases hq with h | h
    · exact .inl (.inl h)
    · rcases List.mem_cons.mp h with h | h
      · exact .inl (.inr h)
      · exact .inr h
def Closed (S : List Step) (f : Fnd) : Prop := ∀ s ∈ S, Relaxed f s
/-- where all is relaxed nothing changes -/
theorem closed_fold : ∀ {S' : List Step} {f : Fnd} {n : Option Nat}, (∀ s ∈ S', Relaxed f s) → S'.foldl relax1 (f, n) = (f, n)
  | [], f, n, _ => rfl
  | s :: S', f, n, h => by
    rw [List.foldl_cons]
    rcases relax_cases f n s with ⟨e, _⟩ | ⟨x, ws, h1, h2, e⟩
    · rw [e]
      exact closed_fold fun q hq => h q (List.mem_cons_of_mem _ hq)
    · obtain ⟨y, ws', e1, e2⟩ := h s (List.mem_cons_self ..) x ws h1
      have := h2 y ws' e1
      exfalso
      grind
/-- where each clock is settled nothing changes -/
theorem full_fold {T : List Nat} {v : Nat} (hp : Pot S p) (hT : ∀ w, w < 6 → w ∈ T) : ∀ {S' : List Step} {f : Fnd} {n : Option Nat} {P : Step → Prop}, (∀ s ∈ S', s ∈ S) → Dij S p f T v P → S'.foldl relax1 (f, n) = (f, n)
  | [], f, n, P, _, _ => rfl
  | s :: S', f, n, P, hs, D => by
    rw [List.foldl_cons]
    have hm := hs s (List.mem_cons_self ..)
    rcases relax_cases f n s with ⟨e, _⟩ | ⟨x, ws, h1, h2, e⟩
    · rw [e]
      exact full_fold hp hT (fun q hq => hs q (List.mem_cons_of_mem _ hq)) D
    · exact absurd (hT _ (hp.other s hm)) (D.out hp hm h1 h2).1
theorem dij_round (hp : Pot S p) {b : Nat} (hb : b < 6) : ∀ k, Closed S (bfN S b k).1 ∨ ∃ T v, Dij S p (bfN S b k).1 T v (fun _ => False) ∧ T.Nodup ∧ (∀ x ∈ T, x < 6) ∧ T.length = k + 1
  | 0 => by
    refine .inr ⟨[b], b, ⟨bfN_len S b 0, List.mem_cons_self .., fun u hu => ?_, fun u hu x ws y ws' h1 h2 => ?_, fun u hu x ws y ws' h1 h2 => ?_, fun s hs ht hc => ?_⟩, by simp, fun x hx => by rw [List.mem_singleton.mp hx]; exact hb, rfl⟩
    · have e := List.mem_singleton.mp hu
      subst e
      exact ⟨0, [], by show gt (bfInit u) u = _; rw [gt_init hb, if_pos rfl]⟩
    · have e := List.mem_singleton.mp hu
      subst e
      rw [h1] at h2
      rw [(Prod.mk.inj (Option.some.inj h2)).1]
      exact Rat.le_refl
    · have e : gt (bfInit b) u = some (x, ws) := h1
      rw [gt_init hb, if_neg (fun z => hu (List.mem_singleton.mpr z.symm))] at e
      cases e
    · rcases hc with hc | hc
      · exact absurd (List.mem_singleton.mp ht) hc
      · exact hc.elim
  | k + 1 => by
    rcases dij_round hp hb k with h | ⟨T, v, D, hn, h6, hl⟩
    · refine .inl ?_
      show Closed S (S.foldl relax1 ((bfN S b k).1, none)).1
      rw [closed_fold h]
      exact h
    · have D1 : Dij S p (bfN S b (k + 1)).1 T v (fun q => False ∨ q ∈ S) := Dij.fold hp (fun s hs => hs) D
      let f := (bfN S b (k + 1)).1
      let W := (List.range 6).filter fun w => decide (w ∉ T) && (gt f w).isSome
      by_cases hW : W = []
      · refine .inl fun s hs x ws h1 => ?_
        have ht : s.one ∈ T := Decidable.byContradiction fun hne => by
          have : s.one ∈ W := List.mem_filter.mpr ⟨List.mem_range.mpr (hp.one s hs), by
            show (decide (s.one ∉ T) && (gt f s.one).isSome) = true
            rw [decide_eq_true hne, h1] <;> rfl⟩
          rw [hW] at this
          cases this
        exact D1.b s hs ht (.inr (.inr hs)) x ws h1
      · obtain ⟨w, hw, hmin⟩ := has_min (fun w => ((gt f w).getD (0, [])).1 - p w) hW
        obtain ⟨hw6, hw2⟩ := List.mem_filter.mp hw
        rw [Bool.and_eq_true] at hw2
        have hwT : w ∉ T := of_decide_eq_true hw2.1
        obtain ⟨⟨xw, ww⟩, hxw⟩ := Option.isSome_iff_exists.mp hw2.2
        obtain ⟨yv, wv, hv⟩ := D1.a v D1.mem
        refine .inr ⟨w :: T, w, ⟨D1.len, List.mem_cons_self .., fun u hu => ?_, fun u hu x ws y ws' h1 h2 => ?_, fun u hu x ws y ws' h1 h2 => ?_, fun s hs ht hc => ?_⟩, List.nodup_cons.mpr ⟨hwT, hn⟩, fun x hx => ?_, by rw [List.length_cons, hl]⟩
        · rcases List.mem_cons.mp hu with rfl | hu
          · exact ⟨xw, ww, hxw⟩
          · exact D1.a u hu
        · rcases List.mem_cons.mp hu with rfl | hu
          · rw [h1] at h2
            rw [(Prod.mk.inj (Option.some.inj h2)).1]
            exact Rat.le_refl
          · have q1 := D1.m u hu x ws yv wv h1 hv
            have q2 := D1.c w hwT y ws' yv wv h2 hv
            exact Rat.le_trans q1 q2
        · have hu6 : u < 6 := by
            rcases Nat.lt_or_ge u 6 with q | q
            · exact q
            · have : gt f u = none := by
                show f.getD u none = none
                rw [List.getD_eq_getElem?_getD, List.getElem?_eq_none (by rw [D1.len]; exact q)] <;> rfl
              rw [show gt (bfN S b (k + 1)).1 u = gt f u from rfl, this] at h1
              cases h1
          have huW : u ∈ W := List.mem_filter.mpr ⟨List.mem_range.mpr hu6, by
            have e1 : gt f u = some (x, ws) := h1
            show (decide (u ∉ T) && (gt f u).isSome) = true
            rw [decide_eq_true (p := u ∉ T) fun z => hu (List.mem_cons_of_mem _ z), e1] <;> rfl⟩
          have := hmin u huW
          have e1 : gt f u = some (x, ws) := h1
          have e2 : gt f w = some (y, ws') := h2
          rw [e1, e2] at this
          exact this
        · rcases List.mem_cons.mp ht with e | ht
          · rcases hc with hc | hc
            · exact absurd e hc
            · exact hc.elim
          · exact D1.b s hs ht (.inr (.inr hs))
        · rcases List.mem_cons.mp hx with rfl | hx
          · exact List.mem_range.mp hw6
          · exact h6 x hx
theorem bf_none (hp : Pot S p) {b : Nat} (hb : b < 6) : (bfN S b 6).2 = none ∧ Closed S (bfN S b 6).1 := by
  have key : bfN S b 6 = ((bfN S b 5).1, none) := by
    show S.foldl relax1 ((bfN S b 5).1, none) = _
    rcases dij_round hp hb 5 with h | ⟨T, v, D, hn, h6, hl⟩
    · exact closed_fold h
    · exact full_fold hp (fun w hw => full_six hn h6 hl hw) (fun s hs => hs) D
  have key2 : ∀ s ∈ S, Relaxed (bfN S b 5).1 s := by
    rcases dij_round hp hb 5 with h | ⟨T, v, D, hn, h6, hl⟩
    · exact h
    · intro s hs
      have hT : ∀ w, w < 6 → w ∈ T := fun w hw => full_six hn h6 hl hw
      rcases relax_cases (bfN S b 5).1 none s with ⟨e, q⟩ | ⟨x, ws, h1, h2, e⟩
      · exact q
      · exact absurd (hT _ (hp.other s hs)) (D.out hp hs h1 h2).1
  rw [key]
  exact ⟨rfl, key2⟩
end
end Gk
end

section
set_option linter.all false
set_option maxRecDepth 100000
namespace Gk
theorem sumF_add : ∀ (ws : List Step) (x : Rat), sumF x ws = x + sumF 0 ws
  | [], x => by show x = x + 0; grind
  | s :: ws, x => by
    show sumF (x + s.long) ws = x + sumF (0 + s.long) ws
    rw [sumF_add ws (x + s.long), sumF_add ws (0 + s.long)]
    grind
theorem sumF_app : ∀ (ws us : List Step) (x : Rat), sumF x (ws ++ us) = sumF (sumF x ws) us
  | [], us, x => rfl
  | s :: ws, us, x => sumF_app ws us (x + s.long)
theorem endOf_app : ∀ (ws us : List Step) (b : Nat), endOf b (ws ++ us) = endOf (endOf b ws) us
  | [], us, b => rfl
  | s :: ws, us, b => endOf_app ws us s.other
theorem chain_app {S : List Step} : ∀ {ws us : List Step} {b : Nat}, Chain S b (ws ++ us) ↔ Chain S b ws ∧ Chain S (endOf b ws) us
  | [], us, b => ⟨fun h => ⟨True.intro, h⟩, fun h => h.2⟩
  | s :: ws, us, b => by
    show (s ∈ S ∧ s.one = b ∧ Chain S s.other (ws ++ us)) ↔ ((s ∈ S ∧ s.one = b ∧ Chain S s.other ws) ∧ Chain S (endOf s.other ws) us)
    rw [chain_app (ws := ws) (us := us)]
    exact ⟨fun ⟨a, b, c, d⟩ => ⟨⟨a, b, c⟩, d⟩, fun ⟨⟨a, b, c⟩, d⟩ => ⟨a, b, c, d⟩⟩
theorem chain_sub {S S' : List Step} : ∀ {ws : List Step} {b : Nat}, Chain S b ws → (∀ s ∈ ws, s ∈ S') → Chain S' b ws
  | [], b, _, _ => True.intro
  | s :: ws, b, h, hs => ⟨hs s (List.mem_cons_self ..), h.2.1, chain_sub h.2.2 fun q hq => hs q (List.mem_cons_of_mem _ hq)⟩
theorem pot_chain {S : List Step} {p : Nat → Rat} (hp : Pot S p) : ∀ {ws : List Step} {b : Nat}, Chain S b ws → p (endOf b ws) ≤ p b + sumF 0 ws
  | [], b, _ => by show p b ≤ p b + 0; grind
  | s :: ws, b, h => by
    have h1 := pot_chain hp h.2.2
    have h2 := hp.le s h.1
    have h3 : sumF 0 (s :: ws) = s.long + sumF 0 ws := by
      show sumF (0 + s.long) ws = _
      rw [sumF_add]
      grind
    show p (endOf s.other ws) ≤ _
    rw [h3]
    rw [h.2.1] at h2
    grind
theorem on_way : ∀ {ws : List Step} {b v : Nat}, v ∈ b :: ws.map Step.other → ∃ pre suf, ws = pre ++ suf ∧ endOf b pre = v
  | ws, b, v, h => by
    rcases List.mem_cons.mp h with rfl | h
    · exact ⟨[], ws, rfl, rfl⟩
    · match ws, h with
      | s :: ws, h =>
        obtain ⟨pre, suf, e, q⟩ := on_way (ws := ws) (b := s.other) (v := v) h
        exact ⟨s :: pre, suf, by rw [e] <;> rfl, q⟩
structure Wy (S : List Step) (b : Nat) (f : Fnd) : Prop where
  len : f.length = 6
  way : ∀ v x ws, gt f v = some (x, ws) → Chain S b ws ∧ endOf b ws = v ∧ sumF 0 ws = x
  dom : ∀ v x ws, gt f v = some (x, ws) → ∀ pre suf, ws = pre ++ suf → ∃ y ws', gt f (endOf b pre) = some (y, ws') ∧ y ≤ sumF 0 pre
  nd : ∀ v x ws, gt f v = some (x, ws) → (b :: ws.map Step.other).Nodup
section
variable {S : List Step} {p : Nat → Rat} {b : Nat}
theorem pre_snoc {pre suf ws : List Step} {s : Step} (h : ws ++ [s] = pre ++ suf) : (pre = ws ++ [s]) ∨ ∃ suf', ws = pre ++ suf' := by
  rcases List.append_eq_append_iff.mp h with ⟨c, e1, e2⟩ | ⟨c, e1, e2⟩
  · match c, e2 with
    | [], e2 => exact .inr ⟨[], by rw [e1, List.append_nil, List.append_nil]⟩
    | q :: c, e2 =>
      have e3 := (List.cons.inj e2)
      have e4 := (List.append_eq_nil_iff.mp e3.2.symm).1
      rw [e4, ← e3.1] at e1
      exact .inl e1
  · exact .inr ⟨c, e1⟩
theorem Wy.step (hp : Pot S p) {f : Fnd} (W : Wy S b f) (n : Option Nat) {s : Step} (hs : s ∈ S) : Wy S b (relax1 (f, n) s).1 := by
  rcases relax_cases f n s with ⟨h, _⟩ | ⟨x, ws, h1, h2, h⟩
  · rw [h]
    exact W
  · rw [h]
    have hl : s.other < f.length := by rw [W.len]; exact hp.other s hs
    have same : ∀ u, u ≠ s.other → gt (f.set s.other (some (x + s.long, ws ++ [s]))) u = gt f u := fun u hu => by
      rw [gt_set hl, if_neg fun z => hu z.symm]
    have here : gt (f.set s.other (some (x + s.long, ws ++ [s]))) s.other = some (x + s.long, ws ++ [s]) := by rw [gt_set hl, if_pos rfl]
    obtain ⟨w1, w2, w3⟩ := W.way _ x ws h1
    have mono : ∀ v y wy, gt f v = some (y, wy) → ∃ y' wy', gt (f.set s.other (some (x + s.long, ws ++ [s]))) v = some (y', wy') ∧ y' ≤ y := fun v y wy hv => by
      by_cases hu : v = s.other
      · subst hu
        exact ⟨_, _, here, Rat.le_of_lt (h2 y wy hv)⟩
      · exact ⟨y, wy, by rw [same v hu]; exact hv, Rat.le_refl⟩
    have way' : Chain S b (ws ++ [s]) ∧ endOf b (ws ++ [s]) = s.other ∧ sumF 0 (ws ++ [s]) = x + s.long := by
      refine ⟨chain_app.mpr ⟨w1, hs, w2.symm, True.intro⟩, by rw [endOf_app] <;> rfl, ?_⟩
      rw [sumF_app, w3] <;> rfl
    show Wy S b (f.set s.other (some (x + s.long, ws ++ [s])))
    refine ⟨by rw [List.length_set]; exact W.len, fun v y wy hv => ?_, fun v y wy hv pre suf e => ?_, fun v y wy hv => ?_⟩
    · by_cases hu : v = s.other
      · subst hu
        rw [here] at hv
        obtain ⟨rfl, rfl⟩ := Prod.mk.inj (Option.some.inj hv)
        exact way'
      · rw [same v hu] at hv
        exact W.way v y wy hv
    · by_cases hu : v = s.other
      · subst hu
        rw [here] at hv
        obtain ⟨rfl, rfl⟩ := Prod.mk.inj (Option.some.inj hv)
        rcases pre_snoc e with rfl | ⟨suf', e'⟩
        · rw [way'.2.1, way'.2.2]
          exact ⟨_, _, here, Rat.le_refl⟩
        · obtain ⟨y', wy', q1, q2⟩ := W.dom _ x ws h1 pre suf' e'
          obtain ⟨y2, wy2, q3, q4⟩ := mono _ y' wy' q1
          exact ⟨y2, wy2, q3, Rat.le_trans q4 q2⟩
      · rw [same v hu] at hv
        obtain ⟨y', wy', q1, q2⟩ := W.dom v y wy hv pre suf e
        obtain ⟨y2, wy2, q3, q4⟩ := mono _ y' wy' q1
        exact ⟨y2, wy2, q3, Rat.le_trans q4 q2⟩
    · by_cases hu : v = s.other
      · subst hu
        rw [here] at hv
        obtain ⟨rfl, rfl⟩ := Prod.mk.inj (Option.some.inj hv)
        have nd0 := W.nd _ x ws h1
        have hno : s.other ∉ b :: ws.map Step.other := fun hm => by
          obtain ⟨pre, suf, e, q⟩ := on_way hm
          obtain ⟨y', wy', q1, q2⟩ := W.dom _ x ws h1 pre suf e
          rw [q] at q1
          have q3 := h2 y' wy' q1
          rw [e] at w1 w2 w3
          have c2 := (chain_app.mp w1).2
          have q4 := pot_chain hp c2
          rw [endOf_app] at w2
          rw [w2, q] at q4
          rw [sumF_app, sumF_add] at w3
          have q5 := hp.le s hs
          grind
        rw [List.map_append, ← List.cons_append]
        exact List.nodup_append.mpr ⟨nd0, by simp, fun a ha c hc z => by
          have hc' : c = s.other := List.mem_singleton.mp hc
          subst hc'
          exact hno (z ▸ ha)⟩
      · rw [same v hu] at hv
        exact W.nd v y wy hv
theorem Wy.fold (hp : Pot S p) : ∀ {S' : List Step} {f : Fnd} {n : Option Nat}, (∀ s ∈ S', s ∈ S) → Wy S b f → Wy S b (S'.foldl relax1 (f, n)).1
  | [], f, n, _, W => W
  | s :: S', f, n, hs, W => by
    rw [List.foldl_cons]
    exact Wy.fold hp (n := (relax1 (f, n) s).2) (fun q hq => hs q (List.mem_cons_of_mem _ hq)) (W.step hp n (hs s (List.mem_cons_self ..)))
theorem Wy.init (hb : b < 6) : Wy S b (bfInit b) := by
  have key : ∀ v x ws, gt (bfInit b) v = some (x, ws) → v = b ∧ x = 0 ∧ ws = [] := fun v x ws h => by
    rw [gt_init hb] at h
    by_cases e : b = v
    · rw [if_pos e] at h
      obtain ⟨rfl, rfl⟩ := Prod.mk.inj (Option.some.inj h)
      exact ⟨e.symm, rfl, rfl⟩
    · rw [if_neg e] at h
      cases h
  refine ⟨bfN_len S b 0, fun v x ws h => ?_, fun v x ws h pre suf e => ?_, fun v x ws h => ?_⟩
  · obtain ⟨rfl, rfl, rfl⟩ := key v x ws h
    exact ⟨True.intro, rfl, rfl⟩
  · obtain ⟨rfl, rfl, rfl⟩ := key v x ws h
    have e1 := (List.append_eq_nil_iff.mp e.symm).1
    subst e1
    exact ⟨0, [], h, Rat.le_refl⟩
  · obtain ⟨rfl, rfl, rfl⟩ := key v x ws h
    simp
theorem Wy.all (hp : Pot S p) (hb : b < 6) : ∀ k, Wy S b (bfN S b k).1
  | 0 => Wy.init hb
  | k + 1 => Wy.fold hp (fun s hs => hs) (Wy.all hp hb k)
structure Bf (S : List Step) (b : Nat) (f : Fnd) : Prop where
  len : f.length = 6
  way : ∀ v x ws, gt f v = some (x, ws) → Chain S b ws ∧ endOf b ws = v ∧ sumF 0 ws = x ∧ ws.Nodup ∧ ws.length ≤ 5
  closed : Closed S f
  self : gt f b = some (0, [])
theorem init_some : ∀ k, ∃ x ws, gt (bfN S b k).1 b = some (x, ws) ∨ ¬ b < 6 := fun k => by
  by_cases hb : b < 6
  · have step : ∀ (f : Fnd) (n : Option Nat) (s : Step), (∃ x ws, gt f b = some (x, ws)) → f.length = 6 → ∃ x ws, gt (relax1 (f, n) s).1 b = some (x, ws) := fun f n s ⟨x, ws, h⟩ hl => by
      rcases relax_cases f n s with ⟨e, _⟩ | ⟨y, wy, h1, h2, e⟩
      · rw [e]
        exact ⟨x, ws, h⟩
      · rw [e]
        by_cases q : s.other = b
        · by_cases q2 : s.other < f.length
          · exact ⟨_, _, by rw [gt_set q2, if_pos q]⟩
          · exact absurd (by rw [hl, q]; exact hb) q2
        · by_cases q2 : s.other < f.length
          · exact ⟨x, ws, by rw [gt_set q2, if_neg q]; exact h⟩
          · exact ⟨x, ws, by rw [show (f.set s.other _, some s.other).1 = f.set s.other _ from rfl, List.set_eq_of_length_le (by omega)]; exact h⟩
    have fold : ∀ (S' : List Step) (f : Fnd) (n : Option Nat), (∃ x ws, gt f b = some (x, ws)) → f.length = 6 → ∃ x ws, gt (S'.foldl relax1 (f, n)).1 b = some (x, ws) := fun S' => by
      induction S' with
      | nil => intro f n h _; exact h
      | cons s S' ih =>
        intro f n h hl
        rw [List.foldl_cons]
        exact ih (relax1 (f, n) s).1 (relax1 (f, n) s).2 (step f n s h hl) ((relax_len (f, n) s).trans hl)
    induction k with
    | zero => exact ⟨0, [], .inl (by show gt (bfInit b) b = _; rw [gt_init hb, if_pos rfl])⟩
    | succ k ih =>
      obtain ⟨x, ws, h⟩ := ih
      rcases h with h | h
      · obtain ⟨x', ws', h'⟩ := fold S (bfN S b k).1 none ⟨x, ws, h⟩ (bfN_len S b k)
        exact ⟨x', ws', .inl h'⟩
      · exact absurd hb h
  · exact ⟨0, [], .inr hb⟩
theorem chain_lt (hp : Pot S p) : ∀ {ws : List Step} {b : Nat}, b < 6 → Chain S b ws → ∀ x ∈ b :: ws.map Step.other, x < 6
  | [], b, hb, _, x, hx => by rw [List.mem_singleton.mp hx]; exact hb
  | s :: ws, b, hb, h, x, hx => by
    rcases List.mem_cons.mp hx with rfl | hx
    · exact hb
    · exact chain_lt hp (hp.other s h.1) h.2.2 x hx
theorem endOf_mem : ∀ {ws : List Step} {b : Nat}, ws ≠ [] → endOf b ws ∈ ws.map Step.other
  | [], _, h => absurd rfl h
  | [s], b, _ => List.mem_cons_self ..
  | s :: q :: ws, b, _ => List.mem_cons_of_mem _ (endOf_mem (ws := q :: ws) (b := s.other) (by simp))
theorem nodup_of_map {α β : Type} {g : α → β} : ∀ {l : List α}, (l.map g).Nodup → l.Nodup
  | [], _ => List.nodup_nil
  | a :: l, h => by
    rw [List.map_cons] at h
    have h' := List.nodup_cons.mp h
    exact List.nodup_cons.mpr ⟨fun z => h'.1 (List.mem_map_of_mem z), nodup_of_map h'.2⟩
theorem bf_ok (hp : Pot S p) (hb : b < 6) : Bf S b (bfN S b 6).1 := by
  have W := Wy.all (S := S) hp hb 6
  refine ⟨W.len, fun v x ws h => ?_, (bf_none hp hb).2, ?_⟩
  · obtain ⟨w1, w2, w3⟩ := W.way v x ws h
    have nd := W.nd v x ws h
    refine ⟨w1, w2, w3, nodup_of_map (List.nodup_cons.mp nd).2, ?_⟩
    have := nodup_six nd (chain_lt hp hb w1)
    rw [List.length_cons, List.length_map] at this
    omega
  · obtain ⟨x, ws, h⟩ := init_some (S := S) (b := b) 6
    rcases h with h | h
    · obtain ⟨w1, w2, w3⟩ := W.way b x ws h
      have nd := W.nd b x ws h
      have e : ws = [] := Decidable.byContradiction fun hne => by
        have := endOf_mem (b := b) hne
        rw [w2] at this
        exact (List.nodup_cons.mp nd).1 this
      subst e
      rw [h, ← w3] <;> rfl
    · exact absurd hb h
/-- no way is shorter -/
theorem Bf.best {f : Fnd} (B : Bf S b f) {ws : List Step} (h : Chain S b ws) : ∃ x ws', gt f (endOf b ws) = some (x, ws') ∧ x ≤ sumF 0 ws := by
  have key : ∀ (us : List Step) (c : Nat) (y : Rat) (wy : List Step), gt f c = some (y, wy) → Chain S c us → ∃ x ws', gt f (endOf c us) = some (x, ws') ∧ x ≤ y + sumF 0 us := by
    intro us
    induction us with
    | nil => intro c y wy hc _; exact ⟨y, wy, hc, by show y ≤ y + 0; grind⟩
    | cons s us ih =>
      intro c y wy hc hch
      obtain ⟨m1, m2, m3⟩ := hch
      obtain ⟨y2, wy2, e1, e2⟩ := B.closed s m1 y wy (by rw [m2]; exact hc)
      obtain ⟨x, ws', q1, q2⟩ := ih s.other y2 wy2 e1 m3
      refine ⟨x, ws', q1, ?_⟩
      have : sumF 0 (s :: us) = s.long + sumF 0 us := by
        show sumF (0 + s.long) us = _
        rw [sumF_add]
        grind
      rw [this]
      grind
  obtain ⟨x, ws', q1, q2⟩ := key ws b 0 [] B.self h
  exact ⟨x, ws', q1, by grind⟩
end
def dist (f : Fnd) (v : Nat) : Option Rat := (gt f v).map (·.1)
theorem dist_some {f : Fnd} {v : Nat} {x : Rat} (h : dist f v = some x) : ∃ ws, gt f v = some (x, ws) := by
  unfold dist at h
  obtain ⟨⟨y, ws⟩, e, q⟩ := Option.map_eq_some_iff.mp h
  exact ⟨ws, by rw [e, ← q]⟩
theorem dist_of {f : Fnd} {v : Nat} {x : Rat} {ws : List Step} (h : gt f v = some (x, ws)) : dist f v = some x := by
  unfold dist
  rw [h] <;> rfl
theorem dist_le {S S' : List Step} {b b' v v' : Nat} {f f' : Fnd} (B : Bf S b f) (B' : Bf S' b' f') (h : ∀ ws, Chain S b ws → endOf b ws = v → ∃ ws', Chain S' b' ws' ∧ endOf b' ws' = v' ∧ sumF 0 ws' = sumF 0 ws) {x : Rat} (hx : dist f v = some x) :
    ∃ x', dist f' v' = some x' ∧ x' ≤ x := by
  obtain ⟨ws, e⟩ := dist_some hx
  obtain ⟨w1, w2, w3, _⟩ := B.way v x ws e
  obtain ⟨ws', c1, c2, c3⟩ := h ws w1 w2
  obtain ⟨x', wy, q1, q2⟩ := B'.best c1
  rw [c2] at q1
  exact ⟨x', dist_of q1, by rw [← w3, ← c3]; exact q2⟩
theorem dist_eq {S S' : List Step} {b b' v v' : Nat} {f f' : Fnd} (B : Bf S b f) (B' : Bf S' b' f') (h : ∀ ws, Chain S b ws → endOf b ws = v → ∃ ws', Chain S' b' ws' ∧ endOf b' ws' = v' ∧ sumF 0 ws' = sumF 0 ws)
    (h' : ∀ ws, Chain S' b' ws → endOf b' ws = v' → ∃ ws', Chain S b ws' ∧ endOf b ws' = v ∧ sumF 0 ws' = sumF 0 ws) : dist f v = dist f' v' := by
  cases hx : dist f v with
  | some x =>
    obtain ⟨x', e1, e2⟩ := dist_le B B' h hx
    obtain ⟨x2, e3, e4⟩ := dist_le B' B h' e1
    rw [hx] at e3
    rw [e1, ← Option.some.inj e3] at *
    rw [Option.some.inj e3] at *
    congr 1
    grind
  | none =>
    cases hy : dist f' v' with
    | none => rfl
    | some y =>
      obtain ⟨x2, e3, _⟩ := dist_le B' B h' hy
      rw [hx] at e3
      cases e3
/-! ### backwards -/
def rev (s : Step) : Step := ⟨s.other, s.one, s.long, s.num, s.sgn⟩
theorem rev_rev (s : Step) : rev (rev s) = s := rfl
theorem chain_rev {S : List Step} : ∀ {ws : List Step} {b : Nat}, Chain S b ws → ∃ us, Chain (S.map rev) (endOf b ws) us ∧ endOf (endOf b ws) us = b ∧ sumF 0 us = sumF 0 ws
  | [], b, _ => ⟨[], True.intro, rfl, rfl⟩
  | s :: ws, b, h => by
    obtain ⟨us, c1, c2, c3⟩ := chain_rev h.2.2
    refine ⟨us ++ [rev s], ?_, ?_, ?_⟩
    · show Chain (S.map rev) (endOf s.other ws) (us ++ [rev s])
      exact chain_app.mpr ⟨c1, List.mem_map_of_mem h.1, by rw [c2] <;> rfl, True.intro⟩
    · show endOf (endOf s.other ws) (us ++ [rev s]) = b
      rw [endOf_app]
      exact h.2.1
    · rw [sumF_app, c3]
      show sumF 0 ws + s.long = sumF (0 + s.long) ws
      rw [sumF_add ws (0 + s.long)]
      grind
theorem map_rev_rev (S : List Step) : (S.map rev).map rev = S := by
  rw [List.map_map]
  exact List.map_id S
theorem dist_rev {S : List Step} {b c : Nat} {f f' : Fnd} (B : Bf S b f) (B' : Bf (S.map rev) c f') : dist f c = dist f' b := by
  refine dist_eq B B' (fun ws h e => ?_) (fun ws h e => ?_)
  · obtain ⟨us, c1, c2, c3⟩ := chain_rev h
    rw [e] at c1 c2
    exact ⟨us, c1, c2, c3⟩
  · obtain ⟨us, c1, c2, c3⟩ := chain_rev h
    rw [e] at c1 c2
    rw [map_rev_rev] at c1
    exact ⟨us, c1, c2, c3⟩
end Gk
end

section
set_option linter.all false
set_option maxRecDepth 100000
namespace Gk
/-! ## the highest row, the lowest one -/
def av (q : Rat) : Rat := Rat.divInt (2 * (q.num.natAbs : Int)) q.den
def great (S : List Step) : Rat := S.foldl (fun a s => a + av s.long) 1
def fars (g : Rat) : List Step := [1, 2, 3, 4, 5].map fun c => ⟨0, c, g, 0, 1⟩
def hiS (S : List Step) : List Step := S ++ fars (great S)
def hiF (S : List Step) : Fnd := (bfN (hiS S) 0 6).1
def hiRow (S : List Step) : List Rat := (hiF S).map fun e => (e.getD (0, [])).1
theorem av_pos {q : Rat} (h : 0 ≤ q) : av q = q + q := by
  have hn : 0 ≤ q.num := Rat.num_nonneg.mpr h
  have e : (2 * (q.num.natAbs : Int)) = q.num + q.num := by omega
  have hd : (q.den : Int) ≠ 0 := by have := q.den_nz; omega
  unfold av
  rw [e]
  have h1 : q = Rat.divInt q.num q.den := (Rat.num_divInt_den q).symm
  have h2 : Rat.divInt (q.num * q.den + q.num * q.den) (q.den * q.den) = Rat.divInt q.num q.den + Rat.divInt q.num q.den := (Rat.divInt_add_divInt q.num q.num hd hd).symm
  rw [← h1] at h2
  rw [← h2, ← Int.add_mul, Rat.divInt_mul_right hd]
theorem av_neg {q : Rat} : av (-q) = av q := by
  unfold av
  rw [Rat.neg_num, Rat.neg_den, Int.natAbs_neg]
theorem av_gr {D M : Nat} {q : Rat} (h : Gr D M q) : Gr D (M + M) (av q) := by
  rcases Rat.le_total (a := 0) (b := q) with h0 | h0
  · rw [av_pos h0]
    exact h.add h
  · rw [← av_neg, av_pos (by grind)]
    exact h.neg.add h.neg
theorem av_ge {q : Rat} : 0 ≤ av q := by
  rcases Rat.le_total (a := 0) (b := q) with h0 | h0
  · rw [av_pos h0]
    grind
  · rw [← av_neg, av_pos (by grind)]
    grind
def tot : List Step → Rat
  | [] => 0
  | s :: ws => s.long + tot ws
theorem sumF_tot : ∀ (ws : List Step) (x : Rat), sumF x ws = x + tot ws
  | [], x => by show x = x + 0; grind
  | s :: ws, x => by
    show sumF (x + s.long) ws = x + (s.long + tot ws)
    rw [sumF_tot ws]
    grind
theorem tot_perm {a b : List Step} (h : a.Perm b) : tot a = tot b := by
  induction h with
  | nil => rfl
  | cons s _ ih => show s.long + _ = s.long + _; rw [ih]
  | swap s t l => show t.long + (s.long + tot l) = s.long + (t.long + tot l); grind
  | trans _ _ ih1 ih2 => rw [ih1, ih2]
theorem tot_nonneg : ∀ {ws : List Step}, (∀ s ∈ ws, 0 ≤ s.long) → 0 ≤ tot ws
  | [], _ => Rat.le_refl
  | s :: ws, h => by
    have h1 := h s (List.mem_cons_self ..)
    have h2 := tot_nonneg (ws := ws) fun q hq => h q (List.mem_cons_of_mem _ hq)
    show 0 ≤ s.long + tot ws
    grind
theorem tot_le : ∀ {ws S : List Step}, ws.Nodup → (∀ s ∈ ws, s ∈ S) → (∀ s ∈ S, 0 ≤ s.long) → tot ws ≤ tot S
  | [], S, _, _, h0 => tot_nonneg h0
  | s :: ws, S, hn, hs, h0 => by
    have hn' := List.nodup_cons.mp hn
    have hm := hs s (List.mem_cons_self ..)
    have ih : tot ws ≤ tot (S.erase s) := tot_le hn'.2 (fun x hx => (List.mem_erase_of_ne (fun z => hn'.1 (by rw [← z]; exact hx))).mpr (hs x (List.mem_cons_of_mem _ hx))) fun x hx => h0 x (List.mem_of_mem_erase hx)
    rw [tot_perm (List.perm_cons_erase hm)]
    show s.long + tot ws ≤ s.long + tot (S.erase s)
    grind
theorem great_add : ∀ (S : List Step) (a : Rat), S.foldl (fun a s => a + av s.long) a = a + S.foldl (fun a s => a + av s.long) 0
  | [], a => by show a = a + 0; grind
  | s :: S, a => by
    rw [List.foldl_cons, List.foldl_cons, great_add S (a + av s.long), great_add S (0 + av s.long)]
    grind
theorem great_ge : ∀ {S : List Step}, (∀ s ∈ S, 0 ≤ s.long) → tot S ≤ S.foldl (fun a s => a + av s.long) 0
  | [], _ => Rat.le_refl
  | s :: S, h => by
    have h1 := h s (List.mem_cons_self ..)
    have h2 := great_ge (S := S) fun q hq => h q (List.mem_cons_of_mem _ hq)
    rw [List.foldl_cons, great_add]
    show s.long + tot S ≤ _
    rw [av_pos h1]
    grind
theorem great_gt {S : List Step} (h : ∀ s ∈ S, 0 ≤ s.long) : tot S < great S := by
  have := great_ge h
  unfold great
  rw [great_add]
  grind
theorem great_gr {D M : Nat} (hD : Gr D M 1) : ∀ {S : List Step}, (∀ s ∈ S, Gr D M s.long) → Gr D ((1 + 2 * S.length) * M) (great S) := by
  have key : ∀ (S : List Step) (a : Rat) (c : Nat), Gr D (c * M) a → (∀ s ∈ S, Gr D M s.long) → Gr D ((c + 2 * S.length) * M) (S.foldl (fun a s => a + av s.long) a) := by
    intro S
    induction S with
    | nil => intro a c ha _; exact ha
    | cons s S ih =>
      intro a c ha h
      rw [List.foldl_cons]
      have := ih (a + av s.long) (c + 2) (by
        have q := ha.add (av_gr (h s (List.mem_cons_self ..)))
        refine q.mono ?_
        rw [Nat.add_mul]
        omega) fun q hq => h q (List.mem_cons_of_mem _ hq)
      refine this.mono (Nat.mul_le_mul ?_ (Nat.le_refl _))
      rw [List.length_cons]
      omega
  intro S h
  exact key S 1 1 (by rw [Nat.one_mul]; exact hD) h
structure NN (S : List Step) : Prop where
  nn : ∀ s ∈ S, 0 ≤ s.long
  one : ∀ s ∈ S, s.one < 6
  other : ∀ s ∈ S, s.other < 6
theorem NN.pot {S : List Step} (h : NN S) : Pot S (fun _ => 0) := ⟨fun s hs => by have := h.nn s hs; grind, h.one, h.other⟩
theorem far_in {g : Rat} {s : Step} (h : s ∈ fars g) : s.one = 0 ∧ s.long = g ∧ s.other < 6 := by
  obtain ⟨c, hc, rfl⟩ := List.mem_map.mp h
  refine ⟨rfl, rfl, ?_⟩
  simp at hc
  show c < 6
  omega
theorem NN.hi {S : List Step} (h : NN S) : NN (hiS S) := by
  have hg : 0 ≤ great S := by
    have h1 := great_gt h.nn
    have h2 := tot_nonneg h.nn
    grind
  refine ⟨fun s hs => ?_, fun s hs => ?_, fun s hs => ?_⟩ <;> rcases List.mem_append.mp hs with hs | hs
  · exact h.nn s hs
  · rw [(far_in hs).2.1]; exact hg
  · exact h.one s hs
  · rw [(far_in hs).1]; omega
  · exact h.other s hs
  · exact (far_in hs).2.2
theorem hi_bf {S : List Step} (h : NN S) : Bf (hiS S) 0 (hiF S) := bf_ok h.hi.pot (by decide)
theorem hi_all {S : List Step} (h : NN S) {v : Nat} (hv : v < 6) : ∃ x ws, gt (hiF S) v = some (x, ws) := by
  have B := hi_bf h
  by_cases h0 : v = 0
  · subst h0
    exact ⟨_, _, B.self⟩
  · have hm : (⟨0, v, great S, 0, 1⟩ : Step) ∈ hiS S := List.mem_append_right _ (List.mem_map.mpr ⟨v, by simp; omega, rfl⟩)
    obtain ⟨x, ws, e, _⟩ := B.closed _ hm 0 [] B.self
    exact ⟨x, ws, e⟩
theorem hiRow_len (S : List Step) : (hiRow S).length = 6 := by
  unfold hiRow hiF
  rw [List.length_map, bfN_len]
theorem hiRow_at {S : List Step} (h : NN S) {v : Nat} (hv : v < 6) {x : Rat} {ws : List Step} (e : gt (hiF S) v = some (x, ws)) : (hiRow S).getD v 0 = x := by
  have B := hi_bf h
  have hl : v < (hiF S).length := by rw [B.len]; exact hv
  unfold hiRow
  unfold gt at e
  rw [List.getD_eq_getElem?_getD, List.getElem?_eq_getElem hl] at e
  rw [List.getD_eq_getElem?_getD, List.getElem?_map, List.getElem?_eq_getElem hl]
  have e' : (hiF S)[v] = some (x, ws) := e
  rw [e'] <;> rfl
theorem hiRow_0 {S : List Step} (h : NN S) : (hiRow S).getD 0 0 = 0 := hiRow_at h (by decide) (hi_bf h).self
def Feas (S : List Step) (row : List Rat) : Prop := ∀ s ∈ S, row.getD s.other 0 ≤ row.getD s.one 0 + s.long
theorem hi_feas {S : List Step} (h : NN S) : Feas S (hiRow S) := fun s hs => by
  obtain ⟨x, ws, e⟩ := hi_all h (h.one s hs)
  obtain ⟨y, wy, e2, le⟩ := (hi_bf h).closed s (List.mem_append_left _ hs) x ws e
  rw [hiRow_at h (h.one s hs) e, hiRow_at h (h.other s hs) e2]
  exact le
theorem tot_mem : ∀ {ws : List Step} {s : Step}, s ∈ ws → (∀ q ∈ ws, 0 ≤ q.long) → s.long ≤ tot ws
  | q :: ws, s, h, h0 => by
    have h1 := h0 q (List.mem_cons_self ..)
    have h2 : 0 ≤ tot ws := tot_nonneg fun x hx => h0 x (List.mem_cons_of_mem _ hx)
    show s.long ≤ q.long + tot ws
    rcases List.mem_cons.mp h with rfl | h
    · grind
    · have := tot_mem h fun x hx => h0 x (List.mem_cons_of_mem _ hx)
      grind
theorem hi_eq {S : List Step} (h : NN S) {f : Fnd} (B : Bf S 0 f) {c : Nat} {x : Rat} (hx : dist f c = some x) : (hiRow S).getD c 0 = x := by
  have B' := hi_bf h
  obtain ⟨ws, e⟩ := dist_some hx
  obtain ⟨w1, w2, w3, w4, w5⟩ := B.way c x ws e
  have w1' : Chain (hiS S) 0 ws := chain_sub w1 fun s hs => List.mem_append_left _ (chain_mem w1 s hs)
  obtain ⟨x', wy, e1, le1⟩ := B'.best w1'
  rw [w2] at e1
  obtain ⟨v1, v2, v3, v4, v5⟩ := B'.way c x' wy e1
  have hc : c < 6 := by
    rcases Nat.lt_or_ge c 6 with q | q
    · exact q
    · have : gt f c = none := by
        show f.getD c none = none
        rw [List.getD_eq_getElem?_getD, List.getElem?_eq_none (by rw [B.len]; exact q)] <;> rfl
      rw [this] at e
      cases e
  rw [hiRow_at h hc e1]
  have le2 : x ≤ x' := by
    by_cases hall : ∀ s ∈ wy, s ∈ S
    · obtain ⟨x2, w2', e2, le⟩ := B.best (chain_sub v1 hall)
      rw [v2, e] at e2
      rw [(Prod.mk.inj (Option.some.inj e2)).1, ← v3]
      exact le
    · obtain ⟨s, hs⟩ := Classical.not_forall.mp hall
      have hs1 : s ∈ wy := Decidable.byContradiction fun z => hs fun q => absurd q z
      have hs2 : s ∉ S := fun z => hs fun _ => z
      have hf : s ∈ fars (great S) := (List.mem_append.mp (chain_mem v1 s hs1)).resolve_left hs2
      have g1 := tot_mem hs1 fun q hq => h.hi.nn q (chain_mem v1 q hq)
      rw [(far_in hf).2.1] at g1
      have g2 := tot_le w4 (chain_mem w1) h.nn
      have g3 := great_gt h.nn
      rw [sumF_tot] at v3 w3
      grind
  rw [w3] at le1
  grind
/-! ## the clocks bound to one -/
def bst (found : List Nat) (e : Nat × Nat) : List Nat := if e.2 ∈ found ∧ e.1 ∉ found then found ++ [e.1] else found
def bndN (E : List (Nat × Nat)) (c : Nat) : Nat → List Nat
  | 0 => [c]
  | k + 1 => E.foldl bst (bndN E c k)
def ClosedB (E : List (Nat × Nat)) (found : List Nat) : Prop := ∀ e ∈ E, e.2 ∈ found → e.1 ∈ found
theorem bst_fold : ∀ {E : List (Nat × Nat)} {found : List Nat}, (E.foldl bst found = found ∧ ClosedB E found) ∨ found.length < (E.foldl bst found).length
  | [], found => .inl ⟨rfl, fun e h => by cases h⟩
  | e :: E, found => by
    rw [List.foldl_cons]
    by_cases h : e.2 ∈ found ∧ e.1 ∉ found
    · have e1 : bst found e = found ++ [e.1] := by unfold bst; rw [if_pos h]
      rw [e1]
      right
      rcases bst_fold (E := E) (found := found ++ [e.1]) with ⟨q, _⟩ | q
      · rw [q]
        simp
      · rw [List.length_append, List.length_singleton] at q
        omega
    · have e1 : bst found e = found := by unfold bst; rw [if_neg h]
      rw [e1]
      rcases bst_fold (E := E) (found := found) with ⟨q, r⟩ | q
      · refine .inl ⟨q, fun x hx => ?_⟩
        rcases List.mem_cons.mp hx with rfl | hx
        · intro h2
          exact Decidable.byContradiction fun h3 => h ⟨h2, h3⟩
        · exact r x hx
      · exact .inr q
theorem bst_inv {R : Nat → Prop} : ∀ {E : List (Nat × Nat)} {found : List Nat}, (∀ e ∈ E, R e.2 → R e.1) → found.Nodup → (∀ x ∈ found, R x) → (E.foldl bst found).Nodup ∧ (∀ x ∈ E.foldl bst found, R x) ∧ ∀ x ∈ found, x ∈ E.foldl bst found
  | [], found, _, hn, hR => ⟨hn, hR, fun _ h => h⟩
  | e :: E, found, hE, hn, hR => by
    rw [List.foldl_cons]
    by_cases h : e.2 ∈ found ∧ e.1 ∉ found
    · have e1 : bst found e = found ++ [e.1] := by unfold bst; rw [if_pos h]
      rw [e1]
      obtain ⟨q1, q2, q3⟩ := bst_inv (E := E) (found := found ++ [e.1]) (fun x hx => hE x (List.mem_cons_of_mem _ hx))
        (List.nodup_append.mpr ⟨hn, by simp, fun a ha c hc z => by
          have hc' : c = e.1 := List.mem_singleton.mp hc
          subst hc'
          exact h.2 (z ▸ ha)⟩) fun x hx => by
          rcases List.mem_append.mp hx with hx | hx
          · exact hR x hx
          · rw [List.mem_singleton.mp hx]
            exact hE e (List.mem_cons_self ..) (hR _ h.1)
      exact ⟨q1, q2, fun x hx => q3 x (List.mem_append_left _ hx)⟩
    · have e1 : bst found e = found := by unfold bst; rw [if_neg h]
      rw [e1]
      exact bst_inv (fun x hx => hE x (List.mem_cons_of_mem _ hx)) hn hR
theorem bnd_inv {E : List (Nat × Nat)} {c : Nat} {R : Nat → Prop} (hE : ∀ e ∈ E, R e.2 → R e.1) (hc : R c) : ∀ k, (bndN E c k).Nodup ∧ (∀ x ∈ bndN E c k, R x) ∧ c ∈ bndN E c k
  | 0 => ⟨by unfold bndN; simp, fun x hx => by rw [List.mem_singleton.mp hx]; exact hc, List.mem_cons_self ..⟩
  | k + 1 => by
    obtain ⟨h1, h2, h3⟩ := bnd_inv hE hc k
    obtain ⟨q1, q2, q3⟩ := bst_inv hE h1 h2
    exact ⟨q1, q2, q3 c h3⟩
theorem bnd_closed {E : List (Nat × Nat)} {c : Nat} (hE : ∀ e ∈ E, e.1 < 6) (hc : c < 6) : ClosedB E (bndN E c 6) := by
  have key : ∀ k, ClosedB E (bndN E c k) ∨ k + 1 ≤ (bndN E c k).length := by
    intro k
    induction k with
    | zero => exact .inr (by unfold bndN; simp)
    | succ k ih =>
      rcases bst_fold (E := E) (found := bndN E c k) with ⟨q, r⟩ | q
      · left
        show ClosedB E (E.foldl bst (bndN E c k))
        rw [q]
        exact r
      · rcases ih with ih | ih
        · exfalso
          have : E.foldl bst (bndN E c k) = bndN E c k := by
            have key2 : ∀ (E' : List (Nat × Nat)) (found : List Nat), (∀ e ∈ E', e.2 ∈ found → e.1 ∈ found) → E'.foldl bst found = found := by
              intro E'
              induction E' with
              | nil => intro found _; rfl
              | cons e E' ih2 =>
                intro found h
                rw [List.foldl_cons]
                have e1 : bst found e = found := by
                  unfold bst
                  rw [if_neg fun z => z.2 (h e (List.mem_cons_self ..) z.1)]
                rw [e1]
                exact ih2 found fun x hx => h x (List.mem_cons_of_mem _ hx)
            exact key2 E _ ih
          rw [this] at q
          omega
        · right
          show k + 1 + 1 ≤ (E.foldl bst (bndN E c k)).length
          omega
  rcases key 6 with h | h
  · exact h
  · obtain ⟨h1, h2, _⟩ := bnd_inv (E := E) (c := c) (R := fun x => x < 6) (fun e he _ => hE e he) hc 6
    have := nodup_six h1 h2
    omega
end Gk
end

section
set_option linter.all false
set_option maxRecDepth 100000
namespace Gk
open PySem PySem.Spec PyProof.Rows L2 Evl
/-! ## a tuple of a list and a datum -/
def tTwo (K : PySem.W.Frag) (G : List Slot) (D : Lists) (ds : List PyData) (d : PyData) : TE := fun t H Q => EnvE K G D t H ∧ ∀ p a vs x H', H a = none → Ex H H' → SqT K H' p [.ref a, x] → H' a = some (.lst vs) → Fts K H' ds vs → Ft K H' d x → Q (.ref p) H'
abbrev PTwo (X : Cx) (G : List Slot) (D : Lists) (e : Expr) (ds : List PyData) (d : PyData) : Prop := PE X e (tTwo X.K G D ds d)
section
variable {X : Cx} {e : Expr} {es : List Expr} {G G' : List Slot} {D : Lists} {M : List Addr} {d d1 d2 : PyData} {ds : List PyData} {pos p : Pos} {N : NP} {R : Res → Prop} {a b : Expr}
theorem pl_two0 {k : Nat} {p2 : Pos} (h : PTwo X G D e ds d) : PL X G D (.Subscript e (.Constant (.int 0) k p2) pos) ds :=
  PE.by_ (pe_ix ix_tup h pe_int (by exact fun _ _ => rfl)) fun t H Q ⟨E, q⟩ => ⟨E, fun p a vs x H1 hn e1 s h1 f fx => ⟨p, _, 0, .ref a, rfl, rfl, s, rfl, q a vs H1 hn e1 h1 f⟩⟩
theorem pl_rep {n : Int} (ha : PR X G D a ds) (hb : PD X G D b (.int n)) (hn : 0 ≤ n ∧ n ≤ 1000) (hl : ds.length * n.toNat ≤ 1000) : PL X G D (.BinOp a .Mult b pos) (List.replicate n.toNat ds).flatten :=
  PE.by_ (pe_op op_rep ha hb) fun t H Q ⟨E, r⟩ => ⟨E, fun z xs H1 e1 s g => ⟨E.mono e1, fun u H2 e2 f2 => by
    have hx : ∀ k : Nat, Fts X.K H2 (List.replicate k ds).flatten (List.replicate k xs).flatten := fun k => by
      induction k with
      | zero => exact rfl
      | succ k ih => exact (g.mono (Ex.tp e2)).app ih
    exact ⟨z, n, xs, rfl, f2, e2 _ _ s, by omega, by omega, sz_of (by rw [g.len]; omega), fun p hp => r p _ _ (fresh_back (e1.trans e2) hp) ((e1.trans e2).trans (Ex.new hp)) upd_same ((hx _).mono (Ex.tp (Ex.new hp)))⟩⟩⟩
/-- return (an own list, a datum) -/
theorem sd_retTwo (i : Nat) {x : Str} {a : Addr} {kt : Nat} {pt : Pos} {e2 : Expr} (h2 : PD X G D e2 d) (hR : R (.two ds d)) (h : G[i]? = some (.ref a) := by rfl) (hp : (a, ds) ∈ D := by simp) (ha : a ∈ M := by simp) (hN : X.N[i]? = some x := by rfl) (hv : Vis X.env.scope x := by first | exact Or.inl rfl | exact Or.inr (Or.inl rfl) | exact Or.inr (Or.inr rfl))
    (hd : (x == ("__debug__" : Str)) = false := by decide) (hcd : (x == ("__classdict__" : Str)) = false := by decide) (hs : starEach [.Name x p, e2] X.env = (false, eval (.Name x p) X.env) :: starEach [e2] X.env := by rfl) (hs2 : starEach [e2] X.env = (false, eval e2 X.env) :: starEach [] X.env := by rfl) :
    SD X M G D (.Return (some (.Tuple [.Name x p, e2] kt pt)) pos) N R := fun H0 => PS.by_ (ps_ret (pe_tup (pa_cons (pe_var hN hv hd hcd) (pa_cons h2 pa_nil hs2) hs))) fun En t H ⟨x0, fr, E, _, r⟩ => by
  obtain ⟨vs, h1, h3⟩ := E.lists _ hp
  refine ⟨_, E.rf h, E, fun u H1 e1 f1 => ⟨sz_of (by show 2 ≤ 100000; omega), fun q hq => ?_⟩⟩
  have en := e1.trans (Ex.new (o := .tup [.ref a, u]) hq)
  exact r (.ref q) _ (.two ds d) (x0.trans en) ⟨q, a, vs, u, rfl, SqT.of upd_same, fr a ha, en _ _ h1, h3.mono (Ex.tp en), f1.mono (Ex.tp (Ex.new hq))⟩ hR
/-- a, b = (a list, a datum): the list is let go -/
theorem sd_asgTwo (i j : Nat) {x y : Str} {px py pt : Pos} {kt : Nat} (hnd : X.N.Nodup) (h : PTwo X G D e ds d) (hN : N M ((G.set i .no).set j (.dat d)) D) (hc : X.calm = true := by rfl) (hi : X.N[i]? = some x := by rfl) (hj : X.N[j]? = some y := by rfl)
    (hx : X.env.scope.names.lookup x = some .local := by rfl) (hy : X.env.scope.names.lookup y = some .local := by rfl) (hn : (assignEach [.Name x px, .Name y py] X.env).length = 2 := by rfl) (hst : (assignEach [.Name x px, .Name y py] X.env).findIdx? (·.1) = none := by rfl)
    (ha1 : (assignEach [.Name x px, .Name y py] X.env).map (·.2) = assign (.Name x px) X.env :: (assignEach [.Name y py] X.env).map (·.2) := by rfl) (ha2 : (assignEach [.Name y py] X.env).map (·.2) = assign (.Name y py) X.env :: (assignEach [] X.env).map (·.2) := by rfl)
    (hs : swapsWithSole [.Tuple [.Name x px, .Name y py] kt pt] e pos.line X.env = pure false := by rfl) (hw : swappedStores [.Tuple [.Name x px, .Name y py] kt pt] e X.env = pure none := by rfl)
    (h1 : (assignEach [.Tuple [.Name x px, .Name y py] kt pt] X.env).map (·.2) = [assign (.Tuple [.Name x px, .Name y py] kt pt) X.env] := by rfl) : SD X M G D (.Assign [.Tuple [.Name x px, .Name y py] kt pt] e pos) N R := fun H0 =>
  PS.by_ (ps_asg h (pg_tup hc (pgs_cons (pg_name hnd hi (.inl hx) (.inr hx)) (pgs_cons (pg_name hnd hj (.inl hy) (.inr hy)) pgs_nil ha2) ha1) hn hst) hs hw h1) fun En t H ⟨x0, fr, E, q, _⟩ => ⟨E, fun p a vs u H1 hn e1 s h1 f fu =>
    ⟨p, [.ref a, u], rfl, s, rfl, .ref a, [u], rfl, u, [], rfl, rfl, q M _ D _ H1 (x0.trans e1) (Ex.tp e1) fr ⟨((E.mono e1).slots.set (s := .no) i True.intro).set (s := .dat d) j ⟨u, rfl, fu⟩, E.nd, (E.mono e1).lists⟩ hN⟩⟩
end
/-! ## a def that takes a list and a number -/
def dEnt : Ent → PyData
  | none => .none
  | some (x, ws) => .tuple [dP x, dWay ws]
def dN : Option Nat → PyData
  | none => .none
  | some n => .int n
inductive RS : List Step → Nat → Res → Prop
  | mk {D M : Nat} {S : List Step} {b : Nat} (z : Sz D M) (hS : ∀ s ∈ S, StepOk D M s) (hl : S.length ≤ 40) (hb : b < 6) : RS S b (.two ((bfN S b 6).1.map dEnt) (dN (bfN S b 6).2))
def spS (K : PySem.W.Frag) : Sp := fun vs H Q _ => ∃ a xs S b r, vs = [.ref a, .int (b : Nat)] ∧ H a = some (.lst xs) ∧ Fts K H (S.map dStep) xs ∧ RS S b r ∧ ∀ v H', Ex H H' → ResOk K H H' r v → Q v H'
section
variable {X : Cx} {e e2 : Expr} {G : List Slot} {D : Lists} {pos p : Pos} {n b : Nat} {x : Str} {ps : List Str} {S : List Step}
theorem p2_call {k : Nat} {rs : List PyData} {rd : PyData} (F : Fn X.prog X.w X.K X.mg X.base k x ps [] (spS X.K)) (hr : Room n X.A) (hk : k ≤ n) (h1 : PR X G D e (S.map dStep)) (h2 : PD X G D e2 (.int (b : Nat))) (h : RS S b (.two rs rd)) (hg : Gl X x := by rfl) (hdb : (x == ("__debug__" : Str)) = false := by decide)
    (he : starEach [e, e2] X.env = (false, eval e X.env) :: starEach [e2] X.env := by rfl) (he2 : starEach [e2] X.env = (false, eval e2 X.env) :: starEach [] X.env := by rfl) (hpl : (backTo pos (starEach [e2] X.env)).any (·.1) = false := by rfl) : PTwo X G D (.Call (.Name x p) [e, e2] [] pos) rs rd :=
  PE.by_ (pe_fn F hr hk (pa_cons h1 (pa_cons h2 pa_nil he2) he) hg hdb he hpl) fun t H Q ⟨E, q⟩ => ⟨E, fun a xs H1 e1 s1 f1 => ⟨E.mono e1, fun v H2 e2 f2 => by
    have ev : v = .int (b : Nat) := f2
    subst ev
    refine ⟨a, xs, S, b, _, rfl, e2 _ _ s1, f1.mono (Ex.tp e2), h, fun v H3 e3 r => ?_⟩
    obtain ⟨p, l, us, u, rfl, s, n0, h3, f3, fu⟩ := r
    have ee := e1.trans e2
    exact q p l us u H3 (fresh_back ee n0) (ee.trans e3) s h3 f3 fu⟩⟩
end
def forB : Stmt → List Stmt
  | .For _ _ b _ _ => b
  | _ => []
def ifB : Stmt → List Stmt
  | .If _ a _ _ => a
  | _ => []
def at0 (f : Stmt → List Stmt) : List Stmt → List Stmt
  | s :: _ => f s
  | [] => []
def setBody : List Stmt := at0 ifB ((at0 ifB (at0 forB ((at0 forB ((defBody d_shortest.st).drop 3)).drop 1))).drop 1)
theorem ixN_nat {n k : Nat} (h : k < n) : ixN n (k : Int) = some k := by
  unfold ixN
  have h1 : ¬ (k : Int) < 0 := by omega
  simp [h, h1]
/-! ### sizes on the way -/
structure Bd (D M c : Nat) (f : Fnd) : Prop where
  len : f.length = 6
  ok : ∀ v x ws, gt f v = some (x, ws) → Gr D (c * M) x ∧ ws.length ≤ c
theorem Bd.mono {D M c c' : Nat} {f : Fnd} (h : Bd D M c f) (hc : c ≤ c') : Bd D M c' f := ⟨h.len, fun v x ws e => ⟨(h.ok v x ws e).1.mono (Nat.mul_le_mul hc (Nat.le_refl _)), Nat.le_trans (h.ok v x ws e).2 hc⟩⟩
theorem Bd.step {D M c : Nat} {f : Fnd} (h : Bd D M c f) (n : Option Nat) {s : Step} (hs : StepOk D M s) : Bd D M (c + 1) (relax1 (f, n) s).1 := by
  rcases relax_cases f n s with ⟨e, _⟩ | ⟨x, ws, h1, h2, e⟩
  · rw [e]
    exact h.mono (Nat.le_succ c)
  · rw [e]
    have hl : s.other < f.length := by rw [h.len]; exact hs.other
    refine ⟨by show (f.set s.other _).length = 6; rw [List.length_set]; exact h.len, fun v y wy ev => ?_⟩
    have ev' : gt (f.set s.other (some (x + s.long, ws ++ [s]))) v = some (y, wy) := ev
    rw [gt_set hl] at ev'
    by_cases q : s.other = v
    · rw [if_pos q] at ev'
      obtain ⟨rfl, rfl⟩ := Prod.mk.inj (Option.some.inj ev')
      obtain ⟨g1, g2⟩ := h.ok _ x ws h1
      refine ⟨?_, by rw [List.length_append, List.length_singleton]; omega⟩
      rw [Nat.add_mul, Nat.one_mul]
      exact g1.add hs.gr
    · rw [if_neg q] at ev'
      exact (h.mono (Nat.le_succ c)).ok v y wy ev'
theorem Bd.init {D M b : Nat} (hb : b < 6) : Bd D M 0 (bfInit b) := by
  refine ⟨by unfold bfInit; simp, fun v x ws h => ?_⟩
  rw [gt_init hb] at h
  by_cases e : b = v
  · rw [if_pos e] at h
    obtain ⟨rfl, rfl⟩ := Prod.mk.inj (Option.some.inj h)
    exact ⟨Gr.zero, Nat.le_refl _⟩
  · rw [if_neg e] at h
    cases h
theorem Bd.fold {D M : Nat} : ∀ {S : List Step} {f : Fnd} {n : Option Nat} {c : Nat}, (∀ s ∈ S, StepOk D M s) → Bd D M c f → Bd D M (c + S.length) (S.foldl relax1 (f, n)).1
  | [], f, n, c, _, h => h
  | s :: S, f, n, c, hs, h => by
    rw [List.foldl_cons]
    have := Bd.fold (S := S) (n := (relax1 (f, n) s).2) (fun q hq => hs q (List.mem_cons_of_mem _ hq)) (h.step n (hs s (List.mem_cons_self ..)))
    refine this.mono ?_
    rw [List.length_cons]
    omega
theorem Bd.bf {D M b : Nat} {S : List Step} (hb : b < 6) (hS : ∀ s ∈ S, StepOk D M s) : ∀ k, Bd D M (k * S.length) (bfN S b k).1
  | 0 => by rw [Nat.zero_mul]; exact Bd.init hb
  | k + 1 => by
    have := Bd.fold (n := none) hS (Bd.bf hb hS k)
    rw [Nat.add_mul, Nat.one_mul]
    exact this
theorem rel_none {f : Fnd} {n : Option Nat} {s : Step} (h : gt f s.one = none) : relax1 (f, n) s = (f, n) := by
  unfold relax1
  rw [h]
theorem rel_new {f : Fnd} {n : Option Nat} {s : Step} {x : Rat} {ws : List Step} (h : gt f s.one = some (x, ws)) (h2 : gt f s.other = none) : relax1 (f, n) s = (f.set s.other (some (x + s.long, ws ++ [s])), some s.other) := by
  unfold relax1
  rw [h]
  dsimp only
  rw [h2]
theorem rel_less {f : Fnd} {n : Option Nat} {s : Step} {x y : Rat} {ws wy : List Step} (h : gt f s.one = some (x, ws)) (h2 : gt f s.other = some (y, wy)) (h3 : x + s.long < y) : relax1 (f, n) s = (f.set s.other (some (x + s.long, ws ++ [s])), some s.other) := by
  unfold relax1
  rw [h]
  dsimp only
  rw [h2]
  dsimp only
  rw [if_pos h3]
theorem rel_no {f : Fnd} {n : Option Nat} {s : Step} {x y : Rat} {ws wy : List Step} (h : gt f s.one = some (x, ws)) (h2 : gt f s.other = some (y, wy)) (h3 : ¬ x + s.long < y) : relax1 (f, n) s = (f, n) := by
  unfold relax1
  rw [h]
  dsimp only
  rw [h2]
  dsimp only
  rw [if_neg h3]
theorem at_ent {f : Fnd} {v : Nat} {e : Ent} (hl : f.length = 6) (hv : v < 6) (h : gt f v = e) : atI (f.map dEnt) (v : Int) = some (dEnt e) := by
  rw [at_map (z := none) (by omega), ← h]
theorem take_fold {S : List Step} {i : Nat} {s : Step} {st : Fnd × Option Nat} (h : S[i]? = some s) : (S.take (i + 1)).foldl relax1 st = relax1 ((S.take i).foldl relax1 st) s := by
  rw [List.take_add_one, h, List.foldl_append] <;> rfl
section
variable {P : Program} {w : World} {K : PySem.W.Frag} {mg : Str → Option Value} {base : Heap}
theorem sc_shortest : FnScope ["steps", "begin", "found", "nearer", "turn", "one", "other", "long", "number", "sign", "here"] ["steps", "begin"] (defScope s_shortest) := ⟨rfl, rfl, rfl, by decide +kernel, rfl, by decide +kernel, by decide +kernel⟩
set_option maxHeartbeats 2000000 in
theorem fn_shortest (T : Tx K mg) : Fn P w K mg base 4 "shortest" ["steps", "begin"] [] (spS K) := by
  refine Fn.mk_ T m_shortest rfl g_shortest (fun _ _ _ _ _ _ us hl => match us, hl with | [_, _], _ => rfl) fun fd F => FunD.ok F sc_shortest (fun vs H Q E h => ?_) (fun cdv A outer s H vs Q E hr h => ?_)
  · obtain ⟨a, xs, S, b, r, rfl, _⟩ := h
    rfl
  obtain ⟨ls, xs, S, b, r, rfl, hls, fls, hR, q⟩ := h
  have hbody : SDs (cxOf CX0 P w K mg base ["steps", "begin", "found", "nearer", "turn", "one", "other", "long", "number", "sign", "here"] d_shortest.qual (defScope d_shortest.st) d_shortest.f cdv A outer s H E).nox [] (.ref ls :: .dat (.int b) :: List.replicate 9 .no) [(ls, S.map dStep)] (defBody d_shortest.st) (fun _ _ _ => r = .dat .none) (fun r' => r' = r) := by
    cases hR with
    | @mk D0 M0 _ _ z hS hl hb =>
      refine sds_cons (sd_asgL 2 sc_shortest.nd (pl_rep (pl_r (pl_lst (pds_cons pd_non pds_nil))) (k_CLOCKS T) (by decide) (by decide)) fun lf => ?_)
      refine sds_cons (sd_setL (D1 := []) 2 (pd_tup (pds_cons (k_NOUGHT T) (pds_cons (pd_tup pds_nil) pds_nil))) (pd_var 1) (j := b) ?_ ?_)
      · exact ixN_nat (n := 6) hb
      refine sds_cons (sd_asg 3 sc_shortest.nd pd_non ?_)
      refine sds_cons (sd_for (is := [4]) (fun i : Nat => .int (0 + (i : Int))) (List.range 6) (fun k M G D => M = [lf] ∧ D = [(lf, (bfN S b k).1.map dEnt), (ls, S.map dStep)] ∧ ∃ a4 a5 a6 a7 a8 a9 a10, G = [.ref ls, .dat (.int b), .ref lf, .dat (dN (bfN S b k).2), a4, a5, a6, a7, a8, a9, a10]) (id_range1 (k_CLOCKS T) (by decide) (by decide) T.range) ?_ (fun k x M G D hx hP => ?_) (fun M G D hP => ?_))
      · refine ⟨rfl, ?_, _, _, _, _, _, _, _, rfl⟩
        show [(lf, _), (ls, S.map dStep)] = [(lf, (bfInit b).map dEnt), (ls, S.map dStep)]
        unfold bfInit
        rw [List.map_set, List.map_replicate] <;> rfl
      · obtain ⟨rfl, rfl, a4, a5, a6, a7, a8, a9, a10, rfl⟩ := hP
        have hk : k < 6 := by
          have := (List.getElem?_eq_some_iff.mp hx).1
          rw [List.length_range] at this
          exact this
        refine ⟨_, (gd_name 4 sc_shortest.nd), ?_⟩
        refine sds_cons (sd_asg 3 sc_shortest.nd pd_non ?_)
        refine sds_cons (sd_forV (is := [5, 6, 7, 8, 9]) dStep S ls 0 (fun i M G D => M = [lf] ∧ D = [(lf, ((S.take i).foldl relax1 ((bfN S b k).1, none)).1.map dEnt), (ls, S.map dStep)] ∧ ∃ a4 a5 a6 a7 a8 a9 a10, G = [.ref ls, .dat (.int b), .ref lf, .dat (dN ((S.take i).foldl relax1 ((bfN S b k).1, none)).2), a4, a5, a6, a7, a8, a9, a10]) ?_ rfl (by simp) (fun i y M G D hy hP => ?_) (fun M G D hP => ?_))
        · exact ⟨rfl, rfl, _, _, _, _, _, _, _, rfl⟩
        · obtain ⟨rfl, rfl, a4, a5, a6, a7, a8, a9, a10, rfl⟩ := hP
          refine ⟨by simp, ?_⟩
          have hi := (List.getElem?_eq_some_iff.mp hy).1
          have sy := hS y (List.mem_of_getElem? hy)
          rw [take_fold hy]
          have bd : Bd D0 M0 (k * S.length + (S.take i).length) ((S.take i).foldl relax1 ((bfN S b k).1, none)).1 := Bd.fold (fun q hq => hS q (List.mem_of_mem_take hq)) (Bd.bf hb hS k)
          have hc : k * S.length + (S.take i).length ≤ 300 := by
            rw [List.length_take]
            have : k * S.length ≤ 5 * 40 := Nat.mul_le_mul (by omega) hl
            omega
          generalize hst : (S.take i).foldl relax1 ((bfN S b k).1, none) = st at bd
          obtain ⟨f, nn⟩ := st
          dsimp only at bd
          have bd := bd.mono hc
          refine ⟨_, (gd_tup (gds_cons (gd_name 5 sc_shortest.nd) (gds_cons (gd_name 6 sc_shortest.nd) (gds_cons (gd_name 7 sc_shortest.nd) (gds_cons (gd_name 8 sc_shortest.nd) (gds_cons (gd_name 9 sc_shortest.nd) gds_nil)))))), ?_⟩
          cases h1 : gt f y.one with
          | none =>
            rw [rel_none h1]
            refine sds_cons (sd_if (pq_cmp (cd_notN (pd_ixR (pr_var 2) (pd_var 5) (at_ent bd.len sy.one h1)))) (fun h1 => by cases h1) (fun _ => sds_nil ?_))
            exact sds_nil ⟨rfl, rfl, _, _, _, _, _, _, _, rfl⟩
          | some en =>
            obtain ⟨xx, ws⟩ := en
            obtain ⟨g1, g2⟩ := bd.ok _ xx ws h1
            have sx : Sm xx := z.sm 300 g1
            have sl : Sm y.long := z.sm1 sy.gr
            have sh_ : Sm (xx + y.long) := z.sm 301 (by
              have := g1.add sy.gr
              rw [show 301 * M0 = 300 * M0 + M0 by omega]
              exact this)
            refine sds_cons (sd_if (pq_cmp (cd_notN (pd_ixR (pr_var 2) (pd_var 5) (at_ent bd.len sy.one h1)))) (fun _ => ?_) (fun h1 => by cases h1))
            refine sds_cons (sd_asg 10 sc_shortest.nd (pd_call (fn_plus T) hr (by decide) (pds_cons (pd_ix (pd_ixR (pr_var 2) (pd_var 5) (at_ent bd.len sy.one h1)) pd_int rfl) (pds_cons (pd_var 7) pds_nil)) (.mk sx sl)) ?_)
            have hset : ∀ (N : NP) (R : Res → Prop), N [lf] [.ref ls, .dat (.int b), .ref lf, .dat (.int (y.other : Nat)), a4, .dat (.int (y.one : Nat)), .dat (.int (y.other : Nat)), .dat (dP y.long), .dat (.int (y.num : Nat)), .dat (.int y.sgn), .dat (dP (xx + y.long))] [(lf, (f.set y.other (some (xx + y.long, ws ++ [y]))).map dEnt), (ls, S.map dStep)] →
                SDs (cxOf CX0 P w K mg base ["steps", "begin", "found", "nearer", "turn", "one", "other", "long", "number", "sign", "here"] d_shortest.qual (defScope d_shortest.st) d_shortest.f cdv A outer s H E).nox [lf] [.ref ls, .dat (.int b), .ref lf, .dat (dN nn), a4, .dat (.int (y.one : Nat)), .dat (.int (y.other : Nat)), .dat (dP y.long), .dat (.int (y.num : Nat)), .dat (.int y.sgn), .dat (dP (xx + y.long))]
                  [(lf, f.map dEnt), (ls, S.map dStep)] setBody N R := fun N R hN => by
              refine sds_cons (sd_setL (D1 := []) 2 (pd_tup (pds_cons (pd_var 10) (pds_cons (pd_cat (pd_ix (pd_ixR (pr_var 2) (pd_var 5) (at_ent bd.len sy.one h1)) pd_int rfl) (pd_tup (pds_cons (pd_tup (pds_cons (pd_var 8) (pds_cons (pd_var 9) pds_nil))) pds_nil)) (by rw [List.length_map]; show ws.length + 1 ≤ 1000; omega)) pds_nil))) (pd_var 6) (j := y.other) ?_ ?_)
              · rw [List.length_map, bd.len] <;> exact ixN_nat sy.other
              refine sds_cons (sd_asg 3 sc_shortest.nd (pd_var 6) (sds_nil ?_))
              have e1 : (f.map dEnt).set y.other (.tuple [dP (xx + y.long), .tuple ((ws.map fun s => .tuple [.int s.num, .int s.sgn]) ++ [.tuple [.int y.num, .int y.sgn]])]) = (f.set y.other (some (xx + y.long, ws ++ [y]))).map dEnt := by
                rw [List.map_set]
                show _ = (f.map dEnt).set y.other (.tuple [dP (xx + y.long), .tuple ((ws ++ [y]).map fun s => .tuple [.int s.num, .int s.sgn])])
                rw [List.map_append] <;> rfl
              rw [← e1] at hN
              exact hN
            cases h2 : gt f y.other with
            | none =>
              rw [rel_new h1 h2]
              refine sds_cons (sd_if (wq_q (wq_or (q := true) (pq_cmp (cd_isN (pd_ixR (pr_var 2) (pd_var 6) (at_ent bd.len sy.other h2)))) fun h2 => by cases h2)) (fun _ => ?_) (fun h3 => by cases h3))
              exact hset _ _ (sds_nil (sds_nil ⟨rfl, rfl, _, _, _, _, _, _, _, rfl⟩))
            | some en2 =>
              obtain ⟨yy, wy⟩ := en2
              have sy2 : Sm yy := z.sm 300 (bd.ok _ yy wy h2).1
              refine sds_cons (sd_if (wq_q (wq_or (pq_cmp (cd_isN (pd_ixR (pr_var 2) (pd_var 6) (at_ent bd.len sy.other h2)))) fun h2' => (wq_or1 (pq_val (pd_call (fn_below T) hr (by decide) (pds_cons (pd_var 10) (pds_cons (pd_ix (pd_ixR (pr_var 2) (pd_var 6) (at_ent bd.len sy.other h2)) pd_int rfl) pds_nil)) (.mk sh_ sy2)))))) (fun h3 => ?_) (fun h3 => ?_))
              · have h4 : xx + y.long < yy := of_decide_eq_true h3
                rw [rel_less h1 h2 h4]
                exact hset _ _ (sds_nil (sds_nil ⟨rfl, rfl, _, _, _, _, _, _, _, rfl⟩))
              · have h4 : ¬ xx + y.long < yy := of_decide_eq_false h3
                rw [rel_no h1 h2 h4]
                exact sds_nil (sds_nil (sds_nil ⟨rfl, rfl, _, _, _, _, _, _, _, rfl⟩))
        · obtain ⟨rfl, rfl, a4, a5, a6, a7, a8, a9, a10, rfl⟩ := hP
          rw [List.take_length]
          exact ⟨by simp, sds_nil ⟨rfl, rfl, _, _, _, _, _, _, _, rfl⟩⟩
      · obtain ⟨rfl, rfl, a4, a5, a6, a7, a8, a9, a10, rfl⟩ := hP
        exact sds_cons (sd_retTwo 2 (pd_var 3) rfl)
  refine ⟨_, (hbody H).nox, Ex.refl H, fun a z => (nomatch z), ⟨?_, by simp, fun p hp => ?_⟩, fun M' G' D' t' H' e1 _ _ _ z => q _ H' e1 ?_, fun v H' r' e1 ok z => q v H' e1 ?_⟩
  · exact ⟨_, _, rfl, rfl, _, _, rfl, ⟨_, rfl, rfl⟩, slots_start (ds := []) 9 rfl⟩
  · rw [List.mem_singleton.mp hp]
    exact ⟨xs, hls, fls⟩
  · rw [z]
    rfl
  · rw [← z]
    exact ok
end
end Gk
end

section
set_option linter.all false
set_option maxRecDepth 100000
namespace Gk
open PySem PySem.Spec PyProof.Rows L2 Evl
theorem rng6 : rngD 0 (6 : Int).toNat = (List.range 6).map fun i : Nat => .int (i : Int) := rfl
theorem range_get {n i x : Nat} (h : (List.range n)[i]? = some x) : x = i ∧ i < n := by
  have hl := (List.getElem?_eq_some_iff.mp h).1
  rw [List.length_range] at hl
  rw [List.getElem?_range hl] at h
  exact ⟨(Option.some.inj h).symm, hl⟩
theorem steps_le {D M : Nat} {ts : List Tel} (h : Tels D M ts) : (stepsOf ts).length ≤ 32 := by
  have h1 := flat_len stepsAt_len (enumL 0 ts)
  rw [enumL_len] at h1
  have := h.len
  unfold stepsOf
  omega
def farD (ts : List Tel) (c o : Nat) : Option Rat := dist (bfN (stepsOf ts) o 6).1 c
def negO (o : Option Rat) : Option Rat := o.map fun q => -q
def lowD (ts : List Tel) (c o : Nat) : Option Rat := negO (farD ts o c)
theorem dO_neg {o : Option Rat} : dO (negO o) = match o with
  | none => .none
  | some q => dP (-q) := by cases o <;> rfl
section
variable {P : Program} {w : World} {K : PySem.W.Frag} {mg : Str → Option Value} {base : Heap}
inductive R_ring_in : List PyData → Res → Prop
  | mk {D M : Nat} {ts : List Tel} {p : Nat → Rat} (z : Sz D M) (h : Tels D M ts) (hp : Pot (stepsOf ts) p) : R_ring_in [dTels ts] (.dat .none)
theorem sc_ring_in : FnScope ["tellings", "steps", "begin", "found", "nearer"] ["tellings"] (defScope s_ring_in) := ⟨rfl, rfl, rfl, by decide +kernel, rfl, by decide +kernel, by decide +kernel⟩
theorem fn_ring_in (T : Tx K mg) : Fn P w K mg base 5 "ring_in" ["tellings"] [] (spD K R_ring_in) := by
  refine Fn.mk_ T m_ring_in rfl g_ring_in (fun _ _ _ _ _ _ us hl => match us, hl with | [_], _ => rfl) fun fd F => fn_body F sc_ring_in (by rintro _ _ ⟨⟩; rfl) fun cdv A outer s H E hr ds r hR => ?_
  cases hR with
  | @mk D0 M0 ts p z h hp =>
    have hl := h.len
    refine sds_cons (sd_asgL 1 sc_ring_in.nd (pl_call (fn_steps_of T) hr (by decide) (pds_cons (pd_var 0) pds_nil) (.mk (by omega))) fun l1 => ?_)
    refine sds_cons (sd_for (is := [2]) (fun i : Nat => .int (i : Int)) (List.range 6) (fun i M G D => D = [(l1, (stepsOf ts).map dStep)] ∧ ∃ a2 a3 a4, G = [.dat (dTels ts), .ref l1, a2, a3, a4]) (by rw [← rng6]; exact id_range1 (k_CLOCKS T) (by decide) (by decide) T.range) ?_ (fun i x M G D hx hP => ?_) (fun M G D hP => ?_))
    · exact ⟨rfl, _, _, _, rfl⟩
    · obtain ⟨rfl, a2, a3, a4, rfl⟩ := hP
      obtain ⟨rfl, hx6⟩ := range_get hx
      refine ⟨_, (gd_name 2 sc_ring_in.nd), ?_⟩
      have e0 := (bf_none hp hx6).1
      have hRS : RS (stepsOf ts) x (.two ((bfN (stepsOf ts) x 6).1.map dEnt) .none) := by
        have := RS.mk z (stepsOk h) (by have := steps_le h; omega) hx6
        rw [e0] at this
        exact this
      refine sds_cons (sd_asgTwo 3 4 sc_ring_in.nd (p2_call (fn_shortest T) hr (by decide) (pr_var 1) (pd_var 2) hRS) ?_)
      exact sds_cons (sd_if (pq_cmp (cd_notN (pd_var 4))) (fun h1 => by cases h1) (fun h1 => sds_nil (sds_nil ⟨rfl, _, _, _, rfl⟩)))
    · obtain ⟨rfl, a2, a3, a4, rfl⟩ := hP
      exact sds_cons (sd_ret pd_non rfl)
inductive R_together : List PyData → Res → Prop
  | mk {D M : Nat} {ts : List Tel} {p : Nat → Rat} (z : Sz D M) (h : Tels D M ts) (hp : Pot (stepsOf ts) p) : R_together [dTels ts] (.dat (.bool true))
theorem sc_together : FnScope ["tellings"] ["tellings"] (defScope s_together) := ⟨rfl, rfl, rfl, by decide +kernel, rfl, by decide +kernel, by decide +kernel⟩
theorem fn_together (T : Tx K mg) : Fn P w K mg base 6 "together" ["tellings"] [] (spD K R_together) := by
  refine Fn.mk_ T m_together rfl g_together (fun _ _ _ _ _ _ us hl => match us, hl with | [_], _ => rfl) fun fd F => fn_body F sc_together (by rintro _ _ ⟨⟩; rfl) fun cdv A outer s H E hr ds r hR => ?_
  cases hR with
  | mk z h hp =>
    exact sds_cons (sd_ret (pd_cmp (cd_isN (pd_call (fn_ring_in T) hr (by decide) (pds_cons (pd_var 0) pds_nil) (.mk z h hp)))) rfl)
theorem sc_agree : FnScope ["tellings"] ["tellings"] (defScope s_agree) := ⟨rfl, rfl, rfl, by decide +kernel, rfl, by decide +kernel, by decide +kernel⟩
theorem ok_agree (T : Tx K mg) {ds : List V} {fd : FuncData} (F : FunD K d_agree.name d_agree.qual (defArgs d_agree.st) (defBody d_agree.st) (defScope d_agree.st) ds [] d_agree.f fd) : FnOk P w K mg base CX0 7 d_agree.f fd ["tellings"] (spD K R_together) := by
  refine fn_body F sc_agree (by rintro _ _ ⟨⟩; rfl) fun cdv A outer s H E hr ds r hR => ?_
  cases hR with
  | mk z h hp =>
    refine sds_cons (sd_expr (pd_call (fn_need_tellings T) hr (by decide) (pds_cons (pd_var 0) pds_nil) (.mk z h)) ?_)
    exact sds_cons (sd_ret (pd_call (fn_together T) hr (by decide) (pds_cons (pd_var 0) pds_nil) (.mk z h hp)) rfl)
theorem fk_agree (T : Tx K mg) : FnK P w K mg base 7 "agree" ["tellings"] ["tellings"] List.reverse (spD K R_together) := FnK.mk_ T m_agree rfl g_agree (fun _ _ _ _ _ _ ws hl => match ws, hl with | [_], _ => rfl) fun fd F => ok_agree T F
theorem sc_ring_of : FnScope ["tellings"] ["tellings"] (defScope s_ring_of) := ⟨rfl, rfl, rfl, by decide +kernel, rfl, by decide +kernel, by decide +kernel⟩
theorem ok_ring_of (T : Tx K mg) {ds : List V} {fd : FuncData} (F : FunD K d_ring_of.name d_ring_of.qual (defArgs d_ring_of.st) (defBody d_ring_of.st) (defScope d_ring_of.st) ds [] d_ring_of.f fd) : FnOk P w K mg base CX0 7 d_ring_of.f fd ["tellings"] (spD K R_ring_in) := by
  refine fn_body F sc_ring_of (by rintro _ _ ⟨⟩; rfl) fun cdv A outer s H E hr ds r hR => ?_
  cases hR with
  | mk z h hp =>
    refine sds_cons (sd_expr (pd_call (fn_need_tellings T) hr (by decide) (pds_cons (pd_var 0) pds_nil) (.mk z h)) ?_)
    exact sds_cons (sd_ret (pd_call (fn_ring_in T) hr (by decide) (pds_cons (pd_var 0) pds_nil) (.mk z h hp)) rfl)
theorem fk_ring_of (T : Tx K mg) : FnK P w K mg base 7 "ring_of" ["tellings"] ["tellings"] List.reverse (spD K R_ring_in) := FnK.mk_ T m_ring_of rfl g_ring_of (fun _ _ _ _ _ _ ws hl => match ws, hl with | [_], _ => rfl) fun fd F => ok_ring_of T F
inductive R_need_together : List PyData → Res → Prop
  | mk {D M : Nat} {ts : List Tel} {p : Nat → Rat} (z : Sz D M) (h : Tels D M ts) (hp : Pot (stepsOf ts) p) : R_need_together [dTels ts] (.dat .none)
theorem sc_need_together : FnScope ["tellings"] ["tellings"] (defScope s_need_together) := ⟨rfl, rfl, rfl, by decide +kernel, rfl, by decide +kernel, by decide +kernel⟩
theorem fn_need_together (T : Tx K mg) : Fn P w K mg base 7 "need_together" ["tellings"] [] (spD K R_need_together) := by
  refine Fn.mk_ T m_need_together rfl g_need_together (fun _ _ _ _ _ _ us hl => match us, hl with | [_], _ => rfl) fun fd F => fn_body F sc_need_together (by rintro _ _ ⟨⟩; rfl) fun cdv A outer s H E hr ds r hR => ?_
  cases hR with
  | mk z h hp =>
    exact sds_cons (sd_if (pq_not (pq_val (pd_call (fn_together T) hr (by decide) (pds_cons (pd_var 0) pds_nil) (.mk z h hp)))) (fun h1 => by cases h1) (fun _ => sds_nil (sds_nil rfl)))
inductive R_far_from : List PyData → Res → Prop
  | mk {D M : Nat} {ts : List Tel} {c o : Nat} (z : Sz D M) (h : Tels D M ts) (hc : c < 6) (ho : o < 6) : R_far_from [dTels ts, .int c, .int o] (.dat (dO (farD ts c o)))
theorem sc_far_from : FnScope ["tellings", "clock", "other", "found"] ["tellings", "clock", "other"] (defScope s_far_from) := ⟨rfl, rfl, rfl, by decide +kernel, rfl, by decide +kernel, by decide +kernel⟩
theorem fn_far_from (T : Tx K mg) : Fn P w K mg base 5 "far_from" ["tellings", "clock", "other"] [] (spD K R_far_from) := by
  refine Fn.mk_ T m_far_from rfl g_far_from (fun _ _ _ _ _ _ us hl => match us, hl with | [_, _, _], _ => rfl) fun fd F => fn_body F sc_far_from (by rintro _ _ ⟨⟩; rfl) fun cdv A outer s H E hr ds r hR => ?_
  cases hR with
  | @mk D0 M0 ts c o z h hc ho =>
    have hl := h.len
    have hRS := RS.mk z (stepsOk h) (by have := steps_le h; omega) ho
    refine sds_cons (sd_asg 3 sc_far_from.nd (pd_ixR (pl_r (pl_two0 (p2_call (fn_shortest T) hr (by decide) (pl_r (pl_call (fn_steps_of T) hr (by decide) (pds_cons (pd_var 0) pds_nil) (.mk (by omega)))) (pd_var 2) hRS))) (pd_var 1) (at_ent (bfN_len _ _ _) hc rfl)) ?_)
    unfold farD dist
    cases gt (bfN (stepsOf ts) o 6).1 c with
    | none => exact sds_cons (sd_ret (pd_ifExp (pq_cmp (cd_isN (pd_var 3))) (fun h1 => pd_non) (fun h2 => by cases h2)) rfl)
    | some e => exact sds_cons (sd_ret (pd_ifExp (pq_cmp (cd_isN (pd_var 3))) (fun h1 => by cases h1) (fun h2 => (pd_ix (pd_var 3) pd_int))) rfl)
inductive R_stretch_by : List PyData → Res → Prop
  | mk {D M : Nat} {ts : List Tel} {c o : Nat} (z : Sz D M) (h : Tels D M ts) (hc : c < 6) (ho : o < 6) : R_stretch_by [dTels ts, .int c, .int o] (.dat (.tuple [dO (lowD ts c o), dO (farD ts c o)]))
theorem sc_stretch_by : FnScope ["tellings", "clock", "other", "high", "back"] ["tellings", "clock", "other"] (defScope s_stretch_by) := ⟨rfl, rfl, rfl, by decide +kernel, rfl, by decide +kernel, by decide +kernel⟩
theorem fn_stretch_by (T : Tx K mg) : Fn P w K mg base 6 "stretch_by" ["tellings", "clock", "other"] [] (spD K R_stretch_by) := by
  refine Fn.mk_ T m_stretch_by rfl g_stretch_by (fun _ _ _ _ _ _ us hl => match us, hl with | [_, _, _], _ => rfl) fun fd F => fn_body F sc_stretch_by (by rintro _ _ ⟨⟩; rfl) fun cdv A outer s H E hr ds r hR => ?_
  cases hR with
  | @mk D0 M0 ts c o z h hc ho =>
    refine sds_cons (sd_par 3 4 sc_stretch_by.nd (pd_call (fn_far_from T) hr (by decide) (pds_cons (pd_var 0) (pds_cons (pd_var 1) (pds_cons (pd_var 2) pds_nil))) (.mk z h hc ho)) (pd_call (fn_far_from T) hr (by decide) (pds_cons (pd_var 0) (pds_cons (pd_var 2) (pds_cons (pd_var 1) pds_nil))) (.mk z h ho hc)) ?_)
    unfold lowD
    cases farD ts o c with
    | none => exact sds_cons (sd_ret (pd_tup (pds_cons (pd_ifExp (pq_cmp (cd_isN (pd_var 4))) (fun h1 => pd_non) (fun h2 => by cases h2)) (pds_cons (pd_var 3) pds_nil))) rfl)
    | some q => exact sds_cons (sd_ret (pd_tup (pds_cons (pd_ifExp (pq_cmp (cd_isN (pd_var 4))) (fun h1 => by cases h1) (fun h2 => (pd_call (fn_turned T) hr (by decide) (pds_cons (pd_var 4) pds_nil) .mk))) (pds_cons (pd_var 3) pds_nil))) rfl)
inductive R_stretch_of : List PyData → Res → Prop
  | mk {D M : Nat} {ts : List Tel} {p : Nat → Rat} {c o : Nat} (z : Sz D M) (h : Tels D M ts) (hp : Pot (stepsOf ts) p) (hc : c < 6) (ho : o < 6) : R_stretch_of [dTels ts, .int c, .int o] (.dat (.tuple [dO (lowD ts c o), dO (farD ts c o)]))
theorem sc_stretch_of : FnScope ["tellings", "clock", "other"] ["tellings", "clock", "other"] (defScope s_stretch_of) := ⟨rfl, rfl, rfl, by decide +kernel, rfl, by decide +kernel, by decide +kernel⟩
theorem ok_stretch_of (T : Tx K mg) {ds : List V} {fd : FuncData} (F : FunD K d_stretch_of.name d_stretch_of.qual (defArgs d_stretch_of.st) (defBody d_stretch_of.st) (defScope d_stretch_of.st) ds [] d_stretch_of.f fd) : FnOk P w K mg base CX0 8 d_stretch_of.f fd ["tellings", "clock", "other"] (spD K R_stretch_of) := by
  refine fn_body F sc_stretch_of (by rintro _ _ ⟨⟩; rfl) fun cdv A outer s H E hr ds r hR => ?_
  cases hR with
  | mk z h hp hc ho =>
    refine sds_cons (sd_expr (pd_call (fn_need_tellings T) hr (by decide) (pds_cons (pd_var 0) pds_nil) (.mk z h)) ?_)
    refine sds_cons (sd_expr (pd_call (fn_need_clock_number T) hr (by decide) (pds_cons (pd_var 1) pds_nil) (.mk hc)) ?_)
    refine sds_cons (sd_expr (pd_call (fn_need_clock_number T) hr (by decide) (pds_cons (pd_var 2) pds_nil) (.mk ho)) ?_)
    refine sds_cons (sd_expr (pd_call (fn_need_together T) hr (by decide) (pds_cons (pd_var 0) pds_nil) (.mk z h hp)) ?_)
    exact sds_cons (sd_ret (pd_call (fn_stretch_by T) hr (by decide) (pds_cons (pd_var 0) (pds_cons (pd_var 1) (pds_cons (pd_var 2) pds_nil))) (.mk z h hc ho)) rfl)
theorem fn_stretch_of (T : Tx K mg) : Fn P w K mg base 8 "stretch_of" ["tellings", "clock", "other"] [] (spD K R_stretch_of) := Fn.mkD (vs := [.int 0]) 3 1 T m_stretch_of rfl (List.mem_of_getElem? (i := 0) rfl) (by simp) rfl g_stretch_of (fun _ _ _ _ _ _ _ us its h1 h2 => match us, its, h1, h2 with | [_, _, _], [_], _, _ => ⟨_, rfl, rfl⟩) fun fd F => ok_stretch_of T F
theorem fk_stretch_of (T : Tx K mg) : FnK P w K mg base 8 "stretch_of" ["tellings", "clock", "other"] ["other", "clock", "tellings"] (fun ds => ds.reverse ++ []) (spD K R_stretch_of) := FnK.mkD (vs := [.int 0]) [] 1 T m_stretch_of rfl (List.mem_of_getElem? (i := 0) rfl) (by simp) g_stretch_of (fun _ _ _ _ _ _ _ us its ws h1 h2 h3 => match us, its, ws, h1, h2, h3 with | [], [_], [_, _, _], _, _, _ => ⟨_, rfl, rfl⟩) (fun H => rfl) fun fd F => ok_stretch_of T F
theorem fk0_stretch_of (T : Tx K mg) : FnK P w K mg base 8 "stretch_of" ["tellings", "clock", "other"] ["clock", "tellings"] (fun ds => ds.reverse ++ [.int 0]) (spD K R_stretch_of) := FnK.mkD (vs := [.int 0]) [.int 0] 0 T m_stretch_of rfl (List.mem_of_getElem? (i := 0) rfl) (by simp) g_stretch_of (fun _ _ _ _ _ _ _ us its ws h1 h2 h3 => match us, its, ws, h1, h2, h3 with | [], [_], [_, _], _, _, _ => ⟨_, rfl, rfl⟩) (fun H => Fts.one rfl) fun fd F => ok_stretch_of T F
/-! ### great_of, highest_row, lowest_row -/
inductive R_great_of : List PyData → Res → Prop
  | mk {D M : Nat} {ts : List Tel} (z : Sz D M) (h : Tels D M ts) (h1 : Gr D M 1) : R_great_of [dTels ts] (.dat (dP (great (stepsOf ts))))
theorem sc_great_of : FnScope ["tellings", "found", "one", "other", "long", "number", "sign"] ["tellings"] (defScope s_great_of) := ⟨rfl, rfl, rfl, by decide +kernel, rfl, by decide +kernel, by decide +kernel⟩
theorem fold_gr {D M : Nat} (h1 : Gr D M 1) {S : List Step} (hS : ∀ s ∈ S, Gr D M s.long) : Gr D ((1 + 2 * S.length) * M) (S.foldl (fun a s => a + av s.long) 1) := great_gr h1 hS
theorem pr_av {q : Rat} (h : q.num.natAbs < 2 ^ 2999) (h2 : q.den < 2 ^ 3000) : Pr (2 * (q.num.natAbs : Int)) q.den := by
  refine ⟨Int.natCast_pos.mpr q.den_pos, ?_, by rw [Int.natAbs_natCast]; exact h2⟩
  have e : (2 * (q.num.natAbs : Int)).natAbs = 2 * q.num.natAbs := by omega
  rw [e, show (3000 : Nat) = 2999 + 1 from rfl, Nat.pow_succ]
  omega
theorem sm_2999 {D M : Nat} {q : Rat} (z : Sz D M) (h : Gr D M q) : q.num.natAbs < 2 ^ 2999 := by
  obtain ⟨n, rfl, hn⟩ := h.eq z.nz
  rw [Rat.num_mkRat, if_neg z.nz, Int.natAbs_ediv_of_dvd (Int.dvd_trans (Int.natCast_dvd_natCast.mpr (Nat.gcd_dvd_right D n.natAbs)) (Int.natAbs_dvd.mpr (Int.dvd_refl _)))]
  exact Nat.lt_of_le_of_lt (Nat.div_le_self _ _) (Nat.lt_of_le_of_lt hn (Nat.lt_of_lt_of_le z.m (Nat.pow_le_pow_right (by decide) (by decide))))
theorem fn_great_of (T : Tx K mg) : Fn P w K mg base 4 "great_of" ["tellings"] [] (spD K R_great_of) := by
  refine Fn.mk_ T m_great_of rfl g_great_of (fun _ _ _ _ _ _ us hl => match us, hl with | [_], _ => rfl) fun fd F => fn_body F sc_great_of (by rintro _ _ ⟨⟩; rfl) fun cdv A outer s H E hr ds r hR => ?_
  cases hR with
  | @mk D0 M0 ts z h h1 =>
    have hl := h.len
    have hS : ∀ s ∈ stepsOf ts, Gr D0 M0 s.long := fun s hs => (stepsOk h s hs).gr
    refine sds_cons (sd_asg 1 sc_great_of.nd (pd_tup (pds_cons pd_int (pds_cons pd_int pds_nil))) ?_)
    refine sds_cons (sd_forL (is := [2, 3, 4, 5, 6]) dStep (stepsOf ts) (fun i M G D => D = [] ∧ ∃ a b c d e, G = [.dat (dTels ts), .dat (dP (((stepsOf ts).take i).foldl (fun a s => a + av s.long) 1)), a, b, c, d, e]) (pl_call (fn_steps_of T) hr (by decide) (pds_cons (pd_var 0) pds_nil) (.mk (by omega))) ?_ (fun l i x M G D hx hP => ?_) (fun M G D hP => ?_))
    · exact ⟨rfl, _, _, _, _, _, rfl⟩
    · obtain ⟨rfl, a, b, c, d, e, rfl⟩ := hP
      have gx := hS x (List.mem_of_getElem? hx)
      have sx := z.sm1 gx
      have ht : ((stepsOf ts).take i).length ≤ 32 := by rw [List.length_take]; have := steps_le h; omega
      have sf : Sm (((stepsOf ts).take i).foldl (fun a s => a + av s.long) 1) := z.sm 65 ((fold_gr h1 fun s hs => hS s (List.mem_of_mem_take hs)).mono (Nat.mul_le_mul (by omega) (Nat.le_refl _)))
      refine ⟨_, (gd_tup (gds_cons (gd_name 2 sc_great_of.nd) (gds_cons (gd_name 3 sc_great_of.nd) (gds_cons (gd_name 4 sc_great_of.nd) (gds_cons (gd_name 5 sc_great_of.nd) (gds_cons (gd_name 6 sc_great_of.nd) gds_nil)))))), ?_⟩
      refine sds_cons (sd_asg 1 sc_great_of.nd (pd_call (fn_plus T) hr (by decide) (pds_cons (pd_var 1) (pds_cons (pd_tup (pds_cons (pd_mul pd_int (pd_abs (pd_ix (pd_var 4) pd_int) T.abs) (sm_mul (m := 2) (n := 3000) (by decide) (by rw [Int.natAbs_natCast]; exact sx.1))) (pds_cons (pd_ix (pd_var 4) pd_int) pds_nil))) pds_nil)) (.gen sf.pr (pr_av (sm_2999 z gx) sx.2))) ?_)
      refine sds_nil ⟨_, rfl, rfl, .dat (.int (x.one : Nat)), .dat (.int (x.other : Nat)), .dat (dP x.long), .dat (.int (x.num : Nat)), .dat (.int x.sgn), ?_⟩
      rw [List.take_add_one, hx, List.foldl_append, Rat.num_divInt_den] <;> rfl
    · obtain ⟨rfl, a, b, c, d, e, rfl⟩ := hP
      rw [List.take_length]
      exact sds_cons (sd_ret (pd_var 1) rfl)
end
end Gk
end

section
set_option linter.all false
namespace Gk
theorem perm_sorted : ∀ {l m : List Int}, l.Perm m → l.Pairwise (· ≤ ·) → m.Pairwise (· ≤ ·) → l = m
  | [], m, h, _, _ => (List.Perm.nil_eq h)
  | a :: l, m, h, h1, h2 => by
    match m, h, h2 with
    | [], h, _ => exact absurd h.length_eq (by simp)
    | b :: m, h, h2 =>
      have k1 := List.pairwise_cons.mp h1
      have k2 := List.pairwise_cons.mp h2
      have e : a = b := by
        have ha : a ∈ b :: m := h.mem_iff.mp (List.mem_cons_self ..)
        have hb : b ∈ a :: l := h.mem_iff.mpr (List.mem_cons_self ..)
        rcases List.mem_cons.mp ha with e | ha
        · exact e
        · rcases List.mem_cons.mp hb with e | hb
          · exact e.symm
          · have := k1.1 b hb
            have := k2.1 a ha
            omega
      subst e
      rw [perm_sorted h.cons_inv k1.2 k2.2]
/-- clocks' numbers, as whole numbers, rising -/
def nI (l : List Nat) : List Int := l.map fun n : Nat => (n : Int)
theorem nI_mem {l : List Nat} {n : Nat} : ((n : Int) ∈ nI l) ↔ n ∈ l := by
  unfold nI
  rw [List.mem_map]
  exact ⟨fun ⟨a, h, e⟩ => by
    have : a = n := by omega
    rw [← this]
    exact h, fun h => ⟨n, h, rfl⟩⟩
def up (l : List Nat) : List Nat := l.mergeSort fun a b => decide (a ≤ b)
theorem up_perm (l : List Nat) : (up l).Perm l := List.mergeSort_perm l _
theorem up_mem {l : List Nat} {n : Nat} : n ∈ up l ↔ n ∈ l := (up_perm l).mem_iff
theorem up_sorted (l : List Nat) : (up l).Pairwise (· ≤ ·) := by
  have := List.pairwise_mergeSort (le := fun a b : Nat => decide (a ≤ b)) (fun a b c h1 h2 => by simp at *; omega) (fun a b => by simp; omega) l
  exact this.imp fun h => of_decide_eq_true h
theorem up_only {l : List Nat} (m : List Int) (hp : m.Perm (nI l)) (hs : m.Pairwise (· ≤ ·)) : m = nI (up l) := by
  refine perm_sorted (hp.trans ((up_perm l).symm.map _)) hs ?_
  unfold nI
  rw [List.pairwise_map]
  exact (up_sorted l).imp fun h => by omega
theorem up_strict {l : List Nat} (h : l.Nodup) : (up l).Pairwise (· < ·) := by
  have hn : (up l).Nodup := (up_perm l).nodup_iff.mpr h
  have := (up_sorted l).and hn
  exact this.imp fun ⟨a, b⟩ => by omega
theorem up_len (l : List Nat) : (up l).length = l.length := (up_perm l).length_eq
def rise : List Nat → Bool
  | a :: b :: l => decide (a < b) && rise (b :: l)
  | _ => true
theorem rise_of : ∀ {l : List Nat}, l.Pairwise (· < ·) → rise l = true
  | [], _ => rfl
  | [_], _ => rfl
  | a :: b :: l, h => by
    have k := List.pairwise_cons.mp h
    have h1 := k.1 b (List.mem_cons_self ..)
    unfold rise
    rw [decide_eq_true h1, rise_of k.2] <;> rfl
end Gk
end

section
set_option linter.all false
set_option maxRecDepth 100000
namespace Gk
open PySem PySem.Spec PyProof.Rows L2 Evl
structure Sz2 (D M : Nat) : Prop extends Sz D M where
  m2 : M < 2 ^ 2800
  one : Gr D M 1
theorem Sz2.far {D M : Nat} (z : Sz2 D M) : Sz D (65 * M) := ⟨z.nz, z.d, by
  have h1 : 65 * M ≤ 2 ^ 100 * M := Nat.mul_le_mul (by decide) (Nat.le_refl _)
  have h2 : 2 ^ 100 * M < 2 ^ 100 * 2 ^ 2800 := Nat.mul_lt_mul_of_pos_left z.m2 (by decide)
  rw [← Nat.pow_add] at h2
  exact Nat.lt_of_le_of_lt h1 h2⟩
def flipT (t : Tel) : Tel := ⟨t.other, t.one, t.low, t.high⟩
theorem flip_ok {D M : Nat} {t : Tel} (h : TelOk D M t) : TelOk D M (flipT t) := ⟨h.other, h.one, fun z => h.ne z.symm, h.some_, h.le, h.lo, h.hi⟩
theorem flips_ok {D M : Nat} {ts : List Tel} (h : Tels D M ts) : Tels D M (ts.map flipT) := ⟨by rw [List.length_map]; exact h.len, fun t ht => by
  obtain ⟨u, hu, rfl⟩ := List.mem_map.mp ht
  exact flip_ok (h.ok u hu)⟩
theorem enumL_map {α β : Type} (f : α → β) : ∀ (k : Nat) (xs : List α), enumL k (xs.map f) = (enumL k xs).map fun p => (p.1, f p.2)
  | _, [] => rfl
  | k, x :: xs => congrArg _ (enumL_map f (k + 1) xs)
theorem stepsAt_flip (p : Nat × Tel) : stepsAt (p.1, flipT p.2) = (stepsAt p).map rev := by
  obtain ⟨n, o1, o2, low, high⟩ := p
  unfold stepsAt flipT rev
  cases high <;> cases low <;> rfl
theorem steps_flip (ts : List Tel) : stepsOf (ts.map flipT) = (stepsOf ts).map rev := by
  unfold stepsOf
  rw [enumL_map, List.flatMap_map, List.map_flatMap]
  congr 1
  funext p
  exact stepsAt_flip p
theorem NN.rev {S : List Step} (h : NN S) : NN (S.map rev) := by
  refine ⟨fun s hs => ?_, fun s hs => ?_, fun s hs => ?_⟩ <;> obtain ⟨u, hu, rfl⟩ := List.mem_map.mp hs
  · exact h.nn u hu
  · exact h.other u hu
  · exact h.one u hu
def lowRow (S : List Step) : List Rat := (hiRow (S.map rev)).map fun q => -q
theorem far_ok {D M : Nat} {S : List Step} (z : Sz2 D M) (hl : S.length ≤ 32) (hS : ∀ s ∈ S, StepOk D M s) : ∀ s ∈ hiS S, StepOk D (65 * M) s := fun s hs => by
  rcases List.mem_append.mp hs with hs | hs
  · have := hS s hs
    exact ⟨this.one, this.other, this.gr.mono (by omega)⟩
  · obtain ⟨e1, e2, e3⟩ := far_in hs
    refine ⟨by omega, e3, ?_⟩
    rw [e2]
    exact (great_gr z.one fun q hq => (hS q hq).gr).mono (Nat.mul_le_mul (by omega) (Nat.le_refl _))
section
variable {P : Program} {w : World} {K : PySem.W.Frag} {mg : Str → Option Value} {base : Heap}
inductive R_highest_row : List PyData → Res → Prop
  | mk {D M : Nat} {ts : List Tel} (z : Sz2 D M) (h : Tels D M ts) (hn : NN (stepsOf ts)) : R_highest_row [dTels ts] (.dat (dRow (hiRow (stepsOf ts))))
theorem sc_highest_row : FnScope ["tellings", "far", "steps", "found", "clock", "here"] ["tellings"] (defScope s_highest_row) := ⟨rfl, rfl, rfl, by decide +kernel, rfl, by decide +kernel, by decide +kernel⟩
theorem hi_mem {S : List Step} (h : NN S) {e : Ent} (he : e ∈ hiF S) : ∃ x ws, e = some (x, ws) := by
  obtain ⟨i, hi⟩ := List.getElem?_of_mem he
  have hl := (List.getElem?_eq_some_iff.mp hi).1
  rw [show (hiF S).length = 6 from bfN_len _ _ _] at hl
  obtain ⟨x, ws, q⟩ := hi_all h hl
  refine ⟨x, ws, ?_⟩
  rw [← q]
  show e = (hiF S).getD i none
  rw [List.getD_eq_getElem?_getD, hi] <;> rfl
theorem fn_highest_row (T : Tx K mg) : Fn P w K mg base 5 "highest_row" ["tellings"] [] (spD K R_highest_row) := by
  refine Fn.mk_ T m_highest_row rfl g_highest_row (fun _ _ _ _ _ _ us hl => match us, hl with | [_], _ => rfl) fun fd F => fn_body F sc_highest_row (by rintro _ _ ⟨⟩; rfl) fun cdv A outer s H E hr ds r hR => ?_
  cases hR with
  | @mk D0 M0 ts z h hn =>
    have hl := h.len
    have h32 := steps_le h
    refine sds_cons (sd_asg 1 sc_highest_row.nd (pd_call (fn_great_of T) hr (by decide) (pds_cons (pd_var 0) pds_nil) (.mk z.toSz h z.one)) ?_)
    have e1 : (stepsOf ts).map dStep ++ [1, 2, 3, 4, 5].map (fun c : Nat => dStep ⟨0, c, great (stepsOf ts), 0, 1⟩) = (hiS (stepsOf ts)).map dStep := by
      unfold hiS fars
      rw [List.map_append] <;> rfl
    refine sds_cons (sd_asgL (ds := (hiS (stepsOf ts)).map dStep) 2 sc_highest_row.nd (by rw [← e1]; exact (pl_cat (pl_r (pl_call (fn_steps_of T) hr (by decide) (pds_cons (pd_var 0) pds_nil) (.mk (by omega)))) (pl_r (pl_lc (own := [("clock", 4)]) (lc_map (fun c : Nat => .int (c : Int)) [1, 2, 3, 4, 5] (fun c : Nat => dStep ⟨0, c, great (stepsOf ts), 0, 1⟩) (fun x hx => ⟨_, (fun _ _ _ _ _ => (gd_name 4 sc_highest_row.nd)), (fun _ _ _ _ _ => qs_nil), fun _ _ _ _ _ _ => (pd_tup (pds_cons pd_int (pds_cons (pd_var 4) (pds_cons (pd_var 1) (pds_cons pd_int (pds_cons pd_int pds_nil))))))⟩) (by decide) (id_range2 pd_int (k_CLOCKS T) (by decide) (by decide) T.range)) sc_highest_row.nd (blkOk_by rfl))) (by rw [List.length_map]; show _ + 5 ≤ 1000; omega))) fun l2 => ?_)
    have hRS := RS.mk z.far (far_ok z h32 (stepsOk h)) (by unfold hiS fars; rw [List.length_append]; show _ + 5 ≤ 40; omega) (b := 0) (by decide)
    refine sds_cons (sd_asgL 3 sc_highest_row.nd (pl_two0 (p2_call (fn_shortest T) hr (by decide) (pr_var 2) pd_int hRS)) fun l3 => ?_)
    refine sds_cons (sd_ret (pd_tupL (pl_r (pl_lc (own := [("here", 5)]) (lc_mapL dEnt (hiF (stepsOf ts)) (fun e => dP (e.getD (0, [])).1) (fun x hx => ⟨_, (fun _ _ _ _ _ => (gd_name 5 sc_highest_row.nd)), (fun _ _ _ _ _ => qs_nil), fun _ _ _ _ _ _ => ?_⟩) (by rw [show (hiF (stepsOf ts)).length = 6 from bfN_len _ _ _]; decide) (pr_var 3 (hp := List.mem_cons_self ..))) sc_highest_row.nd (blkOk_by rfl))) T.tuple) ?_)
    · obtain ⟨xx, ws, rfl⟩ := hi_mem hn hx
      exact pd_ix (pd_var 5) pd_int
    · show _ = Res.dat (.tuple ((hiRow (stepsOf ts)).map dP))
      unfold hiRow
      rw [List.map_map] <;> rfl
inductive R_lowest_row : List PyData → Res → Prop
  | mk {D M : Nat} {ts : List Tel} (z : Sz2 D M) (h : Tels D M ts) (hn : NN (stepsOf ts)) : R_lowest_row [dTels ts] (.dat (dRow (lowRow (stepsOf ts))))
theorem sc_lowest_row : FnScope ["tellings", "other_way", "one", "other", "low", "high"] ["tellings"] (defScope s_lowest_row) := ⟨rfl, rfl, rfl, by decide +kernel, rfl, by decide +kernel, by decide +kernel⟩
theorem fn_lowest_row (T : Tx K mg) : Fn P w K mg base 6 "lowest_row" ["tellings"] [] (spD K R_lowest_row) := by
  refine Fn.mk_ T m_lowest_row rfl g_lowest_row (fun _ _ _ _ _ _ us hl => match us, hl with | [_], _ => rfl) fun fd F => fn_body F sc_lowest_row (by rintro _ _ ⟨⟩; rfl) fun cdv A outer s H E hr ds r hR => ?_
  cases hR with
  | @mk D0 M0 ts z h hn =>
    have hl := h.len
    have hR2 : R_highest_row [dTels (ts.map flipT)] (.dat (dRow (hiRow ((stepsOf ts).map rev)))) := by
      rw [← steps_flip]
      exact .mk z (flips_ok h) (by rw [steps_flip]; exact hn.rev)
    refine sds_cons (sd_asgLc (out := (ts.map flipT).map dTel) (own := [("one", 2), ("other", 3), ("low", 4), ("high", 5)]) 1 (by rw [List.map_map]; exact (lc_map dTel ts (dTel ∘ flipT) (fun x hx => ⟨_, (fun _ _ _ _ _ => (gd_tup (gds_cons (gd_name 2 sc_lowest_row.nd) (gds_cons (gd_name 3 sc_lowest_row.nd) (gds_cons (gd_name 4 sc_lowest_row.nd) (gds_cons (gd_name 5 sc_lowest_row.nd) gds_nil)))))), (fun _ _ _ _ _ => qs_nil), fun _ _ _ _ _ _ => (pd_tup (pds_cons (pd_var 3) (pds_cons (pd_var 2) (pds_cons (pd_var 4) (pds_cons (pd_var 5) pds_nil)))))⟩) (by omega) (id_tup (pd_var 0)))) sc_lowest_row.nd (blkOk_by rfl) (fun l1 => ?_) rfl)
    refine sds_cons (sd_ret (pd_tupL (pl_r (pl_lc (own := [("one", 2)]) (lc_map dP (hiRow ((stepsOf ts).map rev)) (fun q => dP (-q)) (fun x hx => ⟨_, (fun _ _ _ _ _ => (gd_name 2 sc_lowest_row.nd)), (fun _ _ _ _ _ => qs_nil), fun _ _ _ _ _ _ => (pd_call (fn_turned T) hr (by decide) (pds_cons (pd_var 2) pds_nil) .mk)⟩) (by rw [hiRow_len]; decide) (id_tup (pd_call (fn_highest_row T) hr (by decide) (pds_cons (pd_tupL (pr_var 1) T.tuple) pds_nil) hR2))) sc_lowest_row.nd (blkOk_by rfl))) T.tuple) ?_)
    unfold lowRow dRow
    rw [List.map_map] <;> rfl
end
end Gk
end

section
set_option linter.all false
set_option maxRecDepth 100000
namespace Gk
open PySem PySem.Spec PyProof.Rows L2 Evl
def eS (b : Bool) (s : Step) : Nat × Nat := if b then (s.other, s.one) else (s.one, s.other)
def eqsS (b : Bool) (S : List Step) : List (Nat × Nat) := S.map (eS b)
def bnd (b : Bool) (S : List Step) (c : Nat) : List Nat := up (bndN (eqsS b S) c 6)
def sideD : Bool → PyData
  | true => .str "low"
  | false => .str "high"
theorem sh_side {b : Bool} {n : Nat} : sh n (sideD b) = true := by
  have h1 : PySem.PyData.canLay0 (.str "low") = true := by decide +kernel
  have h2 : PySem.PyData.canLay0 (.str "high") = true := by decide +kernel
  cases b <;> cases n <;> (unfold sideD sh; assumption)
theorem sh_low {n : Nat} : sh n (.str "low") = true := sh_side (b := true)
theorem eqv_side : ∀ b : Bool, PyData.eqv (sideD b) (.str "low") = b
  | true => by decide +kernel
  | false => by decide +kernel
abbrev dNs (l : List Nat) : PyData := .tuple ((nI l).map .int)
def bsS (b : Bool) (f : List Nat) (s : Step) : List Nat := bst f (eS b s)
theorem bsS_fold (b : Bool) (S : List Step) (f : List Nat) : S.foldl (bsS b) f = (eqsS b S).foldl bst f := by
  unfold eqsS
  rw [List.foldl_map] <;> rfl
theorem eS_lt {D M : Nat} {b : Bool} {s : Step} (h : StepOk D M s) : (eS b s).1 < 6 ∧ (eS b s).2 < 6 := by
  unfold eS
  cases b
  · exact ⟨h.one, h.other⟩
  · exact ⟨h.other, h.one⟩
theorem eqs_lt {D M : Nat} {b : Bool} {S : List Step} (h : ∀ s ∈ S, StepOk D M s) : ∀ e ∈ eqsS b S, e.1 < 6 ∧ e.2 < 6 := fun e he => by
  obtain ⟨s, hs, rfl⟩ := List.mem_map.mp he
  exact eS_lt (h s hs)
theorem dec_nI {l : List Nat} {n : Nat} : decide ((n : Int) ∈ nI l) = decide (n ∈ l) := decide_eq_decide.mpr nI_mem
theorem not_of {p : Prop} [Decidable p] (h : (!decide p) = true) : ¬ p := fun z => by
  rw [decide_eq_true z] at h
  cases h
theorem bst_yes {f : List Nat} {e : Nat × Nat} (h1 : e.2 ∈ f) (h2 : e.1 ∉ f) : bst f e = f ++ [e.1] := if_pos ⟨h1, h2⟩
theorem bst_no {f : List Nat} {e : Nat × Nat} (h : ¬ (e.2 ∈ f ∧ e.1 ∉ f)) : bst f e = f := if_neg h
theorem foldS {b : Bool} {S : List Step} {i : Nat} {s : Step} {f : List Nat} (h : S[i]? = some s) : (S.take (i + 1)).foldl (bsS b) f = bst ((S.take i).foldl (bsS b) f) (eS b s) := by
  rw [List.take_add_one, h, List.foldl_append] <;> rfl
def freeB (b : Bool) (S : List Step) (c : Nat) (l : List Nat) : Bool := (l.all fun n => inB (.int (n : Int)) 1 5) && (decide (c ∈ l) && rise l) && S.all fun s => !(decide ((eS b s).2 ∈ l) && !decide ((eS b s).1 ∈ l))
theorem cut_one (ds : List PyData) : cutD ds (some 1) none = ds.drop 1 := by
  unfold cutD
  rw [show HT.sIx ds.length 0 (some 1) = min 1 ds.length from HT.sIx_nat ds.length 0 1, HT.sIx_none]
  cases ds with
  | nil => rfl
  | cons d ds =>
    have e : min 1 (d :: ds).length = 1 := by rw [List.length_cons]; omega
    rw [e, List.length_cons, Nat.add_sub_cancel]
    show (ds.take ds.length) = ds
    exact List.take_length
theorem pairs_zip {α : Type} (f : α → PyData) : ∀ as bs : List α, pairs (as.map f) (bs.map f) = (as.zip bs).map fun p => .tuple [f p.1, f p.2]
  | [], bs => by cases bs <;> rfl
  | a :: as, [] => rfl
  | a :: as, b :: bs => congrArg _ (pairs_zip f as bs)
theorem zip_rise : ∀ l : List Nat, ((((nI l).zip ((nI l).drop 1)).map fun p => decide (p.1 < p.2)).all id) = rise l
  | [] => rfl
  | [_] => rfl
  | a :: b :: l => by
    have ih := zip_rise (b :: l)
    unfold rise
    show (decide ((a : Int) < (b : Int)) && ((((nI (b :: l)).zip ((nI (b :: l)).drop 1)).map fun p => decide (p.1 < p.2)).all id)) = _
    rw [ih]
    congr 1
    exact decide_eq_decide.mpr (by omega)
section
variable {P : Program} {w : World} {K : PySem.W.Frag} {mg : Str → Option Value} {base : Heap}
inductive R_bound_to : List PyData → Res → Prop
  | mk {D M : Nat} {ts : List Tel} {c : Nat} {b : Bool} (h : Tels D M ts) (hc : c < 6) : R_bound_to [dTels ts, .int c, sideD b] (.dat (dNs (bnd b (stepsOf ts) c)))
theorem sc_bound_to : FnScope ["tellings", "clock", "side", "found", "turn", "begin", "end", "long", "number", "sign"] ["tellings", "clock", "side"] (defScope s_bound_to) := ⟨rfl, rfl, rfl, by decide +kernel, rfl, by decide +kernel, by decide +kernel⟩
set_option maxHeartbeats 1000000 in
theorem fn_bound_to (T : Tx K mg) : Fn P w K mg base 3 "bound_to" ["tellings", "clock", "side"] [] (spD K R_bound_to) := by
  refine Fn.mk_ T m_bound_to rfl g_bound_to (fun _ _ _ _ _ _ us hl => match us, hl with | [_, _, _], _ => rfl) fun fd F => fn_body F sc_bound_to (by rintro _ _ ⟨⟩; rfl) fun cdv A outer s H E hr ds r hR => ?_
  cases hR with
  | @mk D0 M0 ts c b h hc =>
    have hl := h.len
    have hS := stepsOk h
    have inv : ∀ k, (bndN (eqsS b (stepsOf ts)) c k).Nodup ∧ ∀ x ∈ bndN (eqsS b (stepsOf ts)) c k, x < 6 := fun k => by
      obtain ⟨h1, h2, _⟩ := bnd_inv (E := eqsS b (stepsOf ts)) (c := c) (R := fun x => x < 6) (fun e he _ => (eqs_lt hS e he).1) hc k
      exact ⟨h1, h2⟩
    refine sds_cons (sd_asgL 3 sc_bound_to.nd (pl_lst (pds_cons (pd_var 1) pds_nil)) fun l3 => ?_)
    refine sds_cons (sd_for (is := [4]) (fun i : Nat => .int (i : Int)) (List.range 6) (fun k M G D => M = [l3] ∧ D = [(l3, (nI (bndN (eqsS b (stepsOf ts)) c k)).map .int)] ∧ ∃ a4 a5 a6 a7 a8 a9, G = [.dat (dTels ts), .dat (.int c), .dat (sideD b), .ref l3, a4, a5, a6, a7, a8, a9]) (by rw [← rng6]; exact id_range1 (k_CLOCKS T) (by decide) (by decide) T.range) ?_ (fun k x M G D hx hP => ?_) (fun M G D hP => ?_))
    · exact ⟨rfl, rfl, _, _, _, _, _, _, rfl⟩
    · obtain ⟨rfl, rfl, a4, a5, a6, a7, a8, a9, rfl⟩ := hP
      refine ⟨_, (gd_name 4 sc_bound_to.nd), ?_⟩
      refine sds_cons (sd_forL (is := [5, 6, 7, 8, 9]) dStep (stepsOf ts) (fun i M G D => M = [l3] ∧ D = [(l3, (nI (((stepsOf ts).take i).foldl (bsS b) (bndN (eqsS b (stepsOf ts)) c k))).map .int)] ∧ ∃ a4 a5 a6 a7 a8 a9, G = [.dat (dTels ts), .dat (.int c), .dat (sideD b), .ref l3, a4, a5, a6, a7, a8, a9]) (pl_call (fn_steps_of T) hr (by decide) (pds_cons (pd_var 0) pds_nil) (.mk (by omega))) ?_ (fun l i y M G D hy hP => ?_) (fun M G D hP => ?_))
      · exact ⟨rfl, rfl, _, _, _, _, _, _, rfl⟩
      · obtain ⟨rfl, rfl, a4, a5, a6, a7, a8, a9, rfl⟩ := hP
        have sy := hS y (List.mem_of_getElem? hy)
        have hinv : (((stepsOf ts).take i).foldl (bsS b) (bndN (eqsS b (stepsOf ts)) c k)).length ≤ 6 := by
          rw [bsS_fold]
          obtain ⟨q1, q2, _⟩ := bst_inv (E := eqsS b ((stepsOf ts).take i)) (R := fun x => x < 6) (fun e he _ => (eqs_lt (fun s hs => hS s (List.mem_of_mem_take hs)) e he).1) (inv k).1 (inv k).2
          exact nodup_six q1 q2
        rw [foldS hy]
        generalize ((stepsOf ts).take i).foldl (bsS b) (bndN (eqsS b (stepsOf ts)) c k) = f at hinv
        refine ⟨_, (gd_tup (gds_cons (gd_name 5 sc_bound_to.nd) (gds_cons (gd_name 6 sc_bound_to.nd) (gds_cons (gd_name 7 sc_bound_to.nd) (gds_cons (gd_name 8 sc_bound_to.nd) (gds_cons (gd_name 9 sc_bound_to.nd) gds_nil)))))), ?_⟩
        have hz : ((nI f).map PyData.int).length ≤ 1000 := by
          unfold nI
          rw [List.length_map, List.length_map]
          omega
        have e1 : ∀ n : Nat, (nI f).map PyData.int ++ [.int (n : Int)] = (nI (f ++ [n])).map .int := fun n => by
          unfold nI
          rw [List.map_append, List.map_append] <;> rfl
        cases b with
        | true =>
          refine sds_cons (sd_if (b := true) (pq_cmp (cd_eqV (eqv_side true) hr (pd_var 2) pd_str sh_side sh_low)) (fun h1 => ?_) (fun h1 => by cases h1))
          refine sds_cons (sd_par 5 6 sc_bound_to.nd (pd_var 6) (pd_var 5) ?_)
          refine sds_nil ?_
          refine sds_cons (sd_if (wq_q (wq_and (pq_cmp (cd_inL (pd_var 6) (pr_var 3 (hp := List.mem_cons_of_mem _ (List.mem_cons_self ..))))) fun h2 => (wq_and1 (pq_cmp (cd_notInL (pd_var 5) (pr_var 3 (hp := List.mem_cons_of_mem _ (List.mem_cons_self ..)))))))) (fun h3 => ?_) (fun h3 => ?_))
          · rw [dec_nI, dec_nI, Bool.and_eq_true] at h3
            rw [bst_yes (e := eS true y) (of_decide_eq_true h3.1) (not_of h3.2), ← e1]
            exact sds_cons (sd_app (D1 := [(l, _)]) 3 (pd_var 5) hz (sds_nil (sds_nil ⟨_, rfl, rfl, rfl, _, _, _, _, _, _, rfl⟩)))
          · rw [dec_nI, dec_nI] at h3
            rw [bst_no (e := eS true y) (fun z => by
              have h4 : decide (y.one ∈ f) = true := decide_eq_true z.1
              have h5 : decide (y.other ∈ f) = false := decide_eq_false z.2
              rw [h4, h5] at h3
              cases h3)]
            exact sds_nil (sds_nil ⟨_, rfl, rfl, rfl, _, _, _, _, _, _, rfl⟩)
        | false =>
          refine sds_cons (sd_if (b := false) (pq_cmp (cd_eqV (eqv_side false) hr (pd_var 2) pd_str sh_side sh_low)) (fun h1 => by cases h1) (fun h1 => sds_nil ?_))
          refine sds_cons (sd_if (wq_q (wq_and (pq_cmp (cd_inL (pd_var 6) (pr_var 3 (hp := List.mem_cons_of_mem _ (List.mem_cons_self ..))))) fun h2 => (wq_and1 (pq_cmp (cd_notInL (pd_var 5) (pr_var 3 (hp := List.mem_cons_of_mem _ (List.mem_cons_self ..)))))))) (fun h3 => ?_) (fun h3 => ?_))
          · rw [dec_nI, dec_nI, Bool.and_eq_true] at h3
            rw [bst_yes (e := eS false y) (of_decide_eq_true h3.1) (not_of h3.2), ← e1]
            exact sds_cons (sd_app (D1 := [(l, _)]) 3 (pd_var 5) hz (sds_nil (sds_nil ⟨_, rfl, rfl, rfl, _, _, _, _, _, _, rfl⟩)))
          · rw [dec_nI, dec_nI] at h3
            rw [bst_no (e := eS false y) (fun z => by
              have h4 : decide (y.other ∈ f) = true := decide_eq_true z.1
              have h5 : decide (y.one ∈ f) = false := decide_eq_false z.2
              rw [h4, h5] at h3
              cases h3)]
            exact sds_nil (sds_nil ⟨_, rfl, rfl, rfl, _, _, _, _, _, _, rfl⟩)
      · obtain ⟨rfl, rfl, a4, a5, a6, a7, a8, a9, rfl⟩ := hP
        rw [List.take_length, bsS_fold]
        exact sds_nil ⟨rfl, rfl, _, _, _, _, _, _, rfl⟩
    · obtain ⟨rfl, rfl, a4, a5, a6, a7, a8, a9, rfl⟩ := hP
      refine sds_cons (sd_ret (pd_tupL (pl_r (pl_sorted (ns := nI (bndN (eqsS b (stepsOf ts)) c 6)) (nI (bnd b (stepsOf ts) c)) (fun l hp hs => up_only l hp hs) (pr_var 3 (hp := List.mem_cons_self ..)) ?_ T.sorted)) T.tuple) rfl)
      unfold nI
      rw [List.length_map]
      have := nodup_six (inv 6).1 (inv 6).2
      omega
end
end Gk
end

section
set_option linter.all false
set_option maxRecDepth 100000
namespace Gk
open PySem PySem.Spec PyProof.Rows L2 Evl
section
variable {P : Program} {w : World} {K : PySem.W.Frag} {mg : Str → Option Value} {base : Heap}
inductive R_is_free : List PyData → Res → Prop
  | mk {D M : Nat} {ts : List Tel} {c : Nat} {b : Bool} {l : List Nat} (h : Tels D M ts) (hl : l.length ≤ 1000) : R_is_free [dTels ts, .int c, sideD b, dNs l] (.dat (.bool (freeB b (stepsOf ts) c l)))
theorem sc_is_free : FnScope ["tellings", "clock", "side", "thing", "begin", "end", "long", "number", "sign", "one", "later"] ["tellings", "clock", "side", "thing"] (defScope s_is_free) := ⟨rfl, rfl, rfl, by decide +kernel, rfl, by decide +kernel, by decide +kernel⟩
theorem all_of {α : Type} {q : α → Bool} {xs : List α} : (xs.map q).all id = xs.all q := by
  rw [List.all_map] <;> rfl
theorem nI_all (l : List Nat) (q : Int → Bool) : ((nI l).map q).all id = l.all fun n => q (n : Int) := by
  unfold nI
  rw [List.map_map, all_of] <;> rfl
set_option maxHeartbeats 1000000 in
theorem fn_is_free (T : Tx K mg) : Fn P w K mg base 3 "is_free" ["tellings", "clock", "side", "thing"] [] (spD K R_is_free) := by
  refine Fn.mk_ T m_is_free rfl g_is_free (fun _ _ _ _ _ _ us hl => match us, hl with | [_, _, _, _], _ => rfl) fun fd F => fn_body F sc_is_free (by rintro _ _ ⟨⟩; rfl) fun cdv A outer s H E hr ds r hR => ?_
  cases hR with
  | @mk D0 M0 ts c b l h hl =>
    have ht := h.len
    have hn : (nI l).length ≤ 1000 := by unfold nI; rw [List.length_map]; exact hl
    have hr' := hr
    refine sds_cons (sd_if (wq_q (wq_or (pq_not (pq_val (pd_isT T.toTxt (pd_var 3)))) fun h1 => (wq_or1 (pq_not (pq_val (pd_all rfl (pl_r (pl_lc (own := [("one", 9)]) (lc_bool PyData.int (nI l) (fun i => inB (.int i) 1 5) (fun x hx => ⟨_, (fun _ _ _ _ _ => (gd_name 9 sc_is_free.nd)), (fun _ _ _ _ _ => qs_nil), fun _ _ _ _ _ _ => (pd_call (fn_is_from_to T) hr (by decide) (pds_cons (pd_var 9) (pds_cons pd_int (pds_cons (pd_sub (k_CLOCKS T) pd_int) pds_nil))) .mk)⟩) hn (id_tup (pd_var 3))) sc_is_free.nd (blkOk_by rfl))) T.all)))))) (fun h2 => ?_) (fun h2 => sds_nil ?_))
    · refine sds_cons (sd_ret pd_bl ?_)
      have h3 : (!((nI l).map fun i => inB (.int i) 1 5).all id) = true := h2
      rw [nI_all] at h3
      unfold freeB
      rw [Bool.not_eq_true'] at h3
      rw [h3] <;> rfl
    have h3 : (!((nI l).map fun i => inB (.int i) 1 5).all id) = false := h2
    rw [nI_all, Bool.not_eq_false'] at h3
    have hz : pairs ((nI l).map .int) (cutD ((nI l).map .int) (some 1) none) = ((nI l).zip ((nI l).drop 1)).map fun p => .tuple [.int p.1, .int p.2] := by
      rw [cut_one, ← List.map_drop, pairs_zip]
    refine sds_cons (sd_if (wq_q (wq_or (pq_cmp (cd_notInT (pd_var 1) (pd_var 3))) fun h3 => (wq_or1 (pq_not (pq_val (pd_all rfl (pl_r (pl_lc (own := [("one", 9), ("later", 10)]) (lc_bool (fun p : Int × Int => .tuple [.int p.1, .int p.2]) ((nI l).zip ((nI l).drop 1)) (fun p => decide (p.1 < p.2)) (fun x hx => ⟨_, (fun _ _ _ _ _ => (gd_tup (gds_cons (gd_name 9 sc_is_free.nd) (gds_cons (gd_name 10 sc_is_free.nd) gds_nil)))), (fun _ _ _ _ _ => qs_nil), fun _ _ _ _ _ _ => (pd_cmp (cd_lt (pd_var 9) (pd_var 10)))⟩) (by rw [List.length_zip]; omega) (by rw [← hz]; exact id_zip (pd_var 3) (pd_slice (pd_var 3) (qo_some pd_int) qo_none) T.zip)) sc_is_free.nd (blkOk_by rfl))) T.all)))))) (fun h4 => ?_) (fun h4 => sds_nil ?_))
    · refine sds_cons (sd_ret pd_bl ?_)
      rw [zip_rise, dec_nI] at h4
      have h5 : (decide (c ∈ l) && rise l) = false := by
        cases q1 : decide (c ∈ l) <;> cases q2 : rise l <;> rw [q1, q2] at h4 <;> first | rfl | cases h4
      unfold freeB
      rw [h5, Bool.and_false, Bool.false_and]
    rw [zip_rise, dec_nI] at h4
    have h5 : (decide (c ∈ l) && rise l) = true := by
      cases q1 : decide (c ∈ l) <;> cases q2 : rise l <;> rw [q1, q2] at h4 <;> first | rfl | cases h4
    have hF : freeB b (stepsOf ts) c l = (stepsOf ts).all fun s => !(decide ((eS b s).2 ∈ l) && !decide ((eS b s).1 ∈ l)) := by
      unfold freeB
      rw [h3, h5] <;> rfl
    rw [hF]
    refine sds_cons (sd_forL (is := [4, 5, 6, 7, 8]) dStep (stepsOf ts) (fun i M G D => D = [] ∧ (∃ a4 a5 a6 a7 a8 a9 a10, G = [.dat (dTels ts), .dat (.int c), .dat (sideD b), .dat (dNs l), a4, a5, a6, a7, a8, a9, a10]) ∧ ∀ s ∈ (stepsOf ts).take i, (!(decide ((eS b s).2 ∈ l) && !decide ((eS b s).1 ∈ l))) = true) (pl_call (fn_steps_of T) hr (by decide) (pds_cons (pd_var 0) pds_nil) (.mk (by omega))) ?_ (fun l' i y M G D hy hP => ?_) (fun M G D hP => ?_))
    · exact ⟨rfl, ⟨_, _, _, _, _, _, _, rfl⟩, fun s hs => by rw [List.take_zero] at hs; cases hs⟩
    · obtain ⟨rfl, ⟨a4, a5, a6, a7, a8, a9, a10, rfl⟩, hprev⟩ := hP
      have hm := List.mem_of_getElem? hy
      have bad : (decide ((eS b y).2 ∈ l) && !decide ((eS b y).1 ∈ l)) = true → ((stepsOf ts).all fun s => !(decide ((eS b s).2 ∈ l) && !decide ((eS b s).1 ∈ l))) = false := fun hb => by
        refine Bool.eq_false_iff.mpr fun z => ?_
        have := List.all_eq_true.mp z y hm
        rw [hb] at this
        cases this
      have good : (decide ((eS b y).2 ∈ l) && !decide ((eS b y).1 ∈ l)) = false → ∀ s ∈ (stepsOf ts).take (i + 1), (!(decide ((eS b s).2 ∈ l) && !decide ((eS b s).1 ∈ l))) = true := fun hb s hs => by
        rw [List.take_add_one, hy] at hs
        rcases List.mem_append.mp hs with hs | hs
        · exact hprev s hs
        · have e : s = y := by simpa using hs
          subst e
          rw [hb] <;> rfl
      refine ⟨_, (gd_tup (gds_cons (gd_name 4 sc_is_free.nd) (gds_cons (gd_name 5 sc_is_free.nd) (gds_cons (gd_name 6 sc_is_free.nd) (gds_cons (gd_name 7 sc_is_free.nd) (gds_cons (gd_name 8 sc_is_free.nd) gds_nil)))))), ?_⟩
      cases b with
      | true =>
        refine sds_cons (sd_if (b := true) (pq_cmp (cd_eqV (eqv_side true) hr (pd_var 2) pd_str sh_side sh_low)) (fun h5 => ?_) (fun h5 => by cases h5))
        refine sds_cons (sd_par 4 5 sc_is_free.nd (pd_var 5) (pd_var 4) (sds_nil ?_))
        refine sds_cons (sd_if (wq_q (wq_and (pq_cmp (cd_inT (pd_var 5) (pd_var 3))) fun h6 => (wq_and1 (pq_cmp (cd_notInT (pd_var 4) (pd_var 3)))))) (fun h7 => ?_) (fun h7 => sds_nil ?_))
        · rw [dec_nI, dec_nI] at h7
          refine sds_cons (sd_ret pd_bl ?_)
          rw [bad h7]
        · rw [dec_nI, dec_nI] at h7
          exact sds_nil ⟨_, rfl, rfl, ⟨_, _, _, _, _, _, _, rfl⟩, good h7⟩
      | false =>
        refine sds_cons (sd_if (b := false) (pq_cmp (cd_eqV (eqv_side false) hr (pd_var 2) pd_str sh_side sh_low)) (fun h5 => by cases h5) (fun h5 => sds_nil ?_))
        refine sds_cons (sd_if (wq_q (wq_and (pq_cmp (cd_inT (pd_var 5) (pd_var 3))) fun h6 => (wq_and1 (pq_cmp (cd_notInT (pd_var 4) (pd_var 3)))))) (fun h7 => ?_) (fun h7 => sds_nil ?_))
        · rw [dec_nI, dec_nI] at h7
          refine sds_cons (sd_ret pd_bl ?_)
          rw [bad h7]
        · rw [dec_nI, dec_nI] at h7
          exact sds_nil ⟨_, rfl, rfl, ⟨_, _, _, _, _, _, _, rfl⟩, good h7⟩
    · obtain ⟨rfl, ⟨a4, a5, a6, a7, a8, a9, a10, rfl⟩, hprev⟩ := hP
      rw [List.take_length] at hprev
      refine sds_cons (sd_ret pd_bl ?_)
      rw [List.all_eq_true.mpr hprev]
inductive R_need_other_clock : List PyData → Res → Prop
  | mk {c : Nat} (h : 1 ≤ c) (h6 : c < 6) : R_need_other_clock [.int c] (.dat .none)
theorem sc_need_other_clock : FnScope ["clock"] ["clock"] (defScope s_need_other_clock) := ⟨rfl, rfl, rfl, by decide +kernel, rfl, by decide +kernel, by decide +kernel⟩
theorem R_is_from_to.rng {c : Nat} {i j : Int} (h : i ≤ (c : Int)) (h6 : (c : Int) ≤ j) : R_is_from_to [.int c, .int i, .int j] (.dat (.bool true)) := by
  rw [← inB_nat (n := c) (i := i) (j := j) h h6]
  exact .mk
theorem fn_need_other_clock (T : Tx K mg) : Fn P w K mg base 3 "need_other_clock" ["clock"] [] (spD K R_need_other_clock) := by
  refine Fn.mk_ T m_need_other_clock rfl g_need_other_clock (fun _ _ _ _ _ _ us hl => match us, hl with | [_], _ => rfl) fun fd F => fn_body F sc_need_other_clock (by rintro _ _ ⟨⟩; rfl) fun cdv A outer s H E hr ds r hR => ?_
  cases hR with
  | mk h h6 =>
    exact sds_cons (sd_if (pq_not (pq_val (pd_call (fn_is_from_to T) hr (by decide) (pds_cons (pd_var 0) (pds_cons pd_int (pds_cons (pd_sub (k_CLOCKS T) pd_int) pds_nil))) (.rng (by omega) (by omega))))) (fun h1 => by cases h1) (fun _ => sds_nil (sds_nil rfl)))
end
end Gk
end

section
set_option linter.all false
set_option maxRecDepth 100000
namespace Gk
open PySem PySem.Spec PyProof.Rows L2 Evl
def dWayO : Ent → PyData
  | none => .none
  | some (_, ws) => dWay ws
def entU (S : List Step) (c : Nat) : Ent := gt (bfN S 0 6).1 c
def entD (S : List Step) (c : Nat) : Ent := gt (bfN S c 6).1 0
def mostD (S : List Step) (c : Nat) : PyData := match entU S c with
  | none => dNs (bnd false S c)
  | some _ => dRow (hiRow S)
def leastD (S : List Step) (c : Nat) : PyData := match entD S c with
  | none => dNs (bnd true S c)
  | some _ => dRow (lowRow S)
def paperD (S : List Step) (c : Nat) : PyData := .tuple [dWayO (entD S c), dWayO (entU S c), leastD S c, mostD S c]
theorem Sz2.big {D M : Nat} (z : Sz2 D M) : Sz D (2 ^ 20 * M) := ⟨z.nz, z.d, by
  have h1 : 2 ^ 20 * M ≤ 2 ^ 100 * M := Nat.mul_le_mul (by decide) (Nat.le_refl _)
  have h2 : 2 ^ 100 * M < 2 ^ 100 * 2 ^ 2800 := Nat.mul_lt_mul_of_pos_left z.m2 (by decide)
  rw [← Nat.pow_add] at h2
  exact Nat.lt_of_le_of_lt h1 h2⟩
theorem Tels.mono {D M M' : Nat} {ts : List Tel} (h : Tels D M ts) (hm : M ≤ M') : Tels D M' ts := ⟨h.len, fun t ht =>
  let k := h.ok t ht
  ⟨k.one, k.other, k.ne, k.some_, k.le, fun a e => (k.lo a e).mono hm, fun a e => (k.hi a e).mono hm⟩⟩
theorem neg_get (l : List Rat) (i : Nat) : (l.map fun q => -q).getD i 0 = -(l.getD i 0) := by
  rw [List.getD_eq_getElem?_getD, List.getD_eq_getElem?_getD, List.getElem?_map]
  cases l[i]? with
  | none => show (0 : Rat) = -0; grind
  | some q => rfl
theorem kept_of {ts : List Tel} {row : List Rat} (h : Feas (stepsOf ts) row) {t : Tel} (ht : t ∈ ts) : kept t row = true := by
  obtain ⟨i, hi⟩ := List.getElem?_of_mem ht
  unfold kept
  rw [Bool.and_eq_true]
  constructor
  · cases hl : t.low with
    | none => rfl
    | some l =>
      have := h _ (down_in hi hl)
      refine decide_eq_true ?_
      dsimp only at this
      grind
  · cases hh : t.high with
    | none => rfl
    | some l =>
      have := h _ (up_in hi hh)
      refine decide_eq_true ?_
      dsimp only at this
      grind
theorem keeps_of {ts : List Tel} {row : List Rat} (h : Feas (stepsOf ts) row) : ((ts.map fun t => kept t row).all id) = true := by
  rw [List.all_map]
  exact List.all_eq_true.mpr fun t ht => kept_of h ht
theorem low_feas {S : List Step} (h : NN S) : Feas S (lowRow S) := fun s hs => by
  have := hi_feas h.rev (rev s) (List.mem_map_of_mem hs)
  unfold lowRow
  rw [neg_get, neg_get]
  have h2 : (hiRow (S.map rev)).getD s.one 0 ≤ (hiRow (S.map rev)).getD s.other 0 + s.long := this
  grind
theorem lowRow_len (S : List Step) : (lowRow S).length = 6 := by
  unfold lowRow
  rw [List.length_map, hiRow_len]
theorem hi_gr {D M : Nat} {S : List Step} (z : Sz2 D M) (hl : S.length ≤ 32) (hS : ∀ s ∈ S, StepOk D M s) (hn : NN S) : RowOk D (2 ^ 20 * M) (hiRow S) := by
  refine ⟨hiRow_len S, fun i => ?_⟩
  have B : Bd D (65 * M) (6 * (hiS S).length) (hiF S) := Bd.bf (by decide) (far_ok z hl hS) 6
  have h37 : (hiS S).length ≤ 37 := by unfold hiS fars; rw [List.length_append]; show _ + 5 ≤ 37; omega
  rcases Nat.lt_or_ge i 6 with h6 | h6
  · obtain ⟨x, ws, e⟩ := hi_all hn h6
    rw [hiRow_at hn h6 e]
    refine (B.ok i x ws e).1.mono ?_
    rw [← Nat.mul_assoc]
    exact Nat.mul_le_mul (by omega) (Nat.le_refl _)
  · rw [List.getD_eq_getElem?_getD, List.getElem?_eq_none (by rw [hiRow_len]; exact h6)]
    exact Gr.zero
theorem low_gr {D M : Nat} {S : List Step} (z : Sz2 D M) (hl : S.length ≤ 32) (hS : ∀ s ∈ S, StepOk D M s) (hn : NN S) : RowOk D (2 ^ 20 * M) (lowRow S) := by
  refine ⟨lowRow_len S, fun i => ?_⟩
  unfold lowRow
  rw [neg_get]
  refine ((hi_gr z (S := S.map rev) (by rw [List.length_map]; exact hl) (fun s hs => ?_) hn.rev).gr i).neg
  obtain ⟨u, hu, rfl⟩ := List.mem_map.mp hs
  have := hS u hu
  exact ⟨this.other, this.one, this.gr⟩
theorem low_0 {S : List Step} (h : NN S) : (lowRow S).getD 0 0 = 0 := by
  unfold lowRow
  rw [neg_get, hiRow_0 h.rev]
  grind
theorem low_eq {S : List Step} (h : NN S) {c : Nat} (hc : c < 6) {x : Rat} (hx : dist (bfN S c 6).1 0 = some x) : (lowRow S).getD c 0 = -x := by
  have B := bf_ok h.pot hc
  have B' := bf_ok h.rev.pot (b := 0) (by decide)
  rw [dist_rev B B'] at hx
  unfold lowRow
  rw [neg_get, hi_eq h.rev B' hx]
theorem free_of {D M : Nat} {S : List Step} (hS : ∀ s ∈ S, StepOk D M s) {c : Nat} (hc : c < 6) {b : Bool} {R : Nat → Prop} (hE : ∀ e ∈ eqsS b S, R e.2 → R e.1) (hRc : R c) (h0 : ¬ R 0) : freeB b S c (bnd b S c) = true := by
  obtain ⟨q1, q2, q3⟩ := bnd_inv (E := eqsS b S) (c := c) (R := fun x => R x ∧ x < 6) (fun e he h => ⟨hE e he h.1, (eqs_lt hS e he).1⟩) ⟨hRc, hc⟩ 6
  have hcl := bnd_closed (E := eqsS b S) (c := c) (fun e he => (eqs_lt hS e he).1) hc
  have a1 : ((bnd b S c).all fun n => inB (.int (n : Int)) 1 5) = true := List.all_eq_true.mpr fun n hn => by
    have hn' : n ∈ bndN (eqsS b S) c 6 := up_mem.mp hn
    have h1 := q2 n hn'
    have hne : n ≠ 0 := fun z => h0 (z ▸ h1.1)
    exact inB_nat (by omega) (by omega)
  have a2 : decide (c ∈ bnd b S c) = true := decide_eq_true (up_mem.mpr q3)
  have a3 : rise (bnd b S c) = true := rise_of (up_strict q1)
  have a4 : (S.all fun s => !(decide ((eS b s).2 ∈ bnd b S c) && !decide ((eS b s).1 ∈ bnd b S c))) = true := List.all_eq_true.mpr fun s hs => by
    have he : eS b s ∈ eqsS b S := List.mem_map_of_mem hs
    by_cases h : (eS b s).2 ∈ bnd b S c
    · have h2 : (eS b s).1 ∈ bnd b S c := up_mem.mpr (hcl _ he (up_mem.mp h))
      rw [decide_eq_true h2]
      simp
    · rw [decide_eq_false h] <;> rfl
  unfold freeB
  rw [a1, a2, a3, a4] <;> rfl
theorem free_hi {D M : Nat} {S : List Step} (hS : ∀ s ∈ S, StepOk D M s) (hn : NN S) {c : Nat} (hc : c < 6) (h : entU S c = none) : freeB false S c (bnd false S c) = true := by
  refine free_of hS hc (R := fun v => ∃ ws, Chain S v ws ∧ endOf v ws = c) (fun e he h => ?_) ⟨[], True.intro, rfl⟩ fun ⟨ws, h1, h2⟩ => ?_
  · obtain ⟨s, hs, rfl⟩ := List.mem_map.mp he
    obtain ⟨ws, h1, h2⟩ := h
    exact ⟨s :: ws, ⟨hs, rfl, h1⟩, h2⟩
  · obtain ⟨x, ws', e, _⟩ := (bf_ok hn.pot (b := 0) (by decide)).best h1
    rw [h2] at e
    unfold entU at h
    rw [h] at e
    cases e
theorem free_lo {D M : Nat} {S : List Step} (hS : ∀ s ∈ S, StepOk D M s) (hn : NN S) {c : Nat} (hc : c < 6) (h : entD S c = none) : freeB true S c (bnd true S c) = true := by
  refine free_of hS hc (R := fun v => ∃ ws, Chain S c ws ∧ endOf c ws = v) (fun e he h => ?_) ⟨[], True.intro, rfl⟩ fun ⟨ws, h1, h2⟩ => ?_
  · obtain ⟨s, hs, rfl⟩ := List.mem_map.mp he
    obtain ⟨ws, h1, h2⟩ := h
    exact ⟨ws ++ [s], chain_app.mpr ⟨h1, hs, h2.symm, True.intro⟩, by rw [endOf_app] <;> rfl⟩
  · obtain ⟨x, ws', e, _⟩ := (bf_ok hn.pot hc).best h1
    rw [h2] at e
    unfold entD at h
    rw [h] at e
    cases e
section
variable {P : Program} {w : World} {K : PySem.W.Frag} {mg : Str → Option Value} {base : Heap}
inductive R_stretch_paper : List PyData → Res → Prop
  | mk {D M : Nat} {ts : List Tel} {c : Nat} (z : Sz2 D M) (h : Tels D M ts) (hn : NN (stepsOf ts)) (hc : 1 ≤ c) (h6 : c < 6) : R_stretch_paper [dTels ts, .int c] (.dat (paperD (stepsOf ts) c))
theorem sc_stretch_paper : FnScope ["tellings", "clock", "steps", "up", "down", "most", "least"] ["tellings", "clock"] (defScope s_stretch_paper) := ⟨rfl, rfl, rfl, by decide +kernel, rfl, by decide +kernel, by decide +kernel⟩
theorem ok_stretch_paper (T : Tx K mg) {ds : List V} {fd : FuncData} (F : FunD K d_stretch_paper.name d_stretch_paper.qual (defArgs d_stretch_paper.st) (defBody d_stretch_paper.st) (defScope d_stretch_paper.st) ds [] d_stretch_paper.f fd) : FnOk P w K mg base CX0 8 d_stretch_paper.f fd ["tellings", "clock"] (spD K R_stretch_paper) := by
  refine fn_body F sc_stretch_paper (by rintro _ _ ⟨⟩; rfl) fun cdv A outer s H E hr ds r hR => ?_
  cases hR with
  | @mk D0 M0 ts c z h hn hc h6 =>
    have hl := h.len
    have h32 := steps_le h
    have r0 := RS.mk z.toSz (stepsOk h) (by omega) (b := 0) (by decide)
    have rc := RS.mk z.toSz (stepsOk h) (by omega) (b := c) h6
    refine sds_cons (sd_expr (pd_call (fn_need_tellings T) hr (by decide) (pds_cons (pd_var 0) pds_nil) (.mk z.toSz h)) ?_)
    refine sds_cons (sd_expr (pd_call (fn_need_other_clock T) hr (by decide) (pds_cons (pd_var 1) pds_nil) (.mk hc h6)) ?_)
    refine sds_cons (sd_expr (pd_call (fn_need_together T) hr (by decide) (pds_cons (pd_var 0) pds_nil) (.mk z.toSz h hn.pot)) ?_)
    refine sds_cons (sd_asgL 2 sc_stretch_paper.nd (pl_call (fn_steps_of T) hr (by decide) (pds_cons (pd_var 0) pds_nil) (.mk (by omega))) fun l2 => ?_)
    refine sds_cons (sd_par (d1 := dEnt (entU (stepsOf ts) c)) (d2 := dEnt (entD (stepsOf ts) c)) 3 4 sc_stretch_paper.nd (pd_ixR (pl_r (pl_two0 (p2_call (fn_shortest T) hr (by decide) (pr_var 2) pd_int r0))) (pd_var 1) (at_ent (bfN_len _ _ _) h6 rfl)) (pd_ixR (pl_r (pl_two0 (p2_call (fn_shortest T) hr (by decide) (pr_var 2) (pd_var 1) rc))) pd_int (at_ent (v := 0) (bfN_len _ _ _) (by decide) rfl)) ?_)
    unfold paperD mostD leastD
    cases hu : entU (stepsOf ts) c with
    | none =>
      refine sds_cons (sd_asg 5 sc_stretch_paper.nd (pd_ifExp (pq_cmp (cd_isN (pd_var 3))) (fun h1 => (pd_call (fn_bound_to T) hr (by decide) (pds_cons (pd_var 0) (pds_cons (pd_var 1) (pds_cons pd_str pds_nil))) (.mk (b := false) h h6))) (fun h2 => by cases h2)) ?_)
      cases hd : entD (stepsOf ts) c with
      | none =>
        refine sds_cons (sd_asg 6 sc_stretch_paper.nd (pd_ifExp (pq_cmp (cd_isN (pd_var 4))) (fun h1 => (pd_call (fn_bound_to T) hr (by decide) (pds_cons (pd_var 0) (pds_cons (pd_var 1) (pds_cons pd_str pds_nil))) (.mk (b := true) h h6))) (fun h2 => by cases h2)) ?_)
        exact sds_cons (sd_ret (pd_tup (pds_cons (pd_ifExp (pq_cmp (cd_isN (pd_var 4))) (fun h5 => pd_non) (fun h6 => by cases h6)) (pds_cons (pd_ifExp (pq_cmp (cd_isN (pd_var 3))) (fun h7 => pd_non) (fun h8 => by cases h8)) (pds_cons (pd_var 6) (pds_cons (pd_var 5) pds_nil))))) rfl)
      | some e =>
        obtain ⟨x, ws⟩ := e
        refine sds_cons (sd_asg 6 sc_stretch_paper.nd (pd_ifExp (pq_cmp (cd_isN (pd_var 4))) (fun h1 => by cases h1) (fun h2 => (pd_call (fn_lowest_row T) hr (by decide) (pds_cons (pd_var 0) pds_nil) (.mk z h hn)))) ?_)
        exact sds_cons (sd_ret (pd_tup (pds_cons (pd_ifExp (pq_cmp (cd_isN (pd_var 4))) (fun h5 => by cases h5) (fun h6 => pd_ix (pd_var 4) pd_int)) (pds_cons (pd_ifExp (pq_cmp (cd_isN (pd_var 3))) (fun h7 => pd_non) (fun h8 => by cases h8)) (pds_cons (pd_var 6) (pds_cons (pd_var 5) pds_nil))))) rfl)
    | some eu =>
      obtain ⟨xu, wu⟩ := eu
      refine sds_cons (sd_asg 5 sc_stretch_paper.nd (pd_ifExp (pq_cmp (cd_isN (pd_var 3))) (fun h1 => by cases h1) (fun h2 => (pd_call (fn_highest_row T) hr (by decide) (pds_cons (pd_var 0) pds_nil) (.mk z h hn)))) ?_)
      cases hd : entD (stepsOf ts) c with
      | none =>
        refine sds_cons (sd_asg 6 sc_stretch_paper.nd (pd_ifExp (pq_cmp (cd_isN (pd_var 4))) (fun h1 => (pd_call (fn_bound_to T) hr (by decide) (pds_cons (pd_var 0) (pds_cons (pd_var 1) (pds_cons pd_str pds_nil))) (.mk (b := true) h h6))) (fun h2 => by cases h2)) ?_)
        exact sds_cons (sd_ret (pd_tup (pds_cons (pd_ifExp (pq_cmp (cd_isN (pd_var 4))) (fun h5 => pd_non) (fun h6 => by cases h6)) (pds_cons (pd_ifExp (pq_cmp (cd_isN (pd_var 3))) (fun h7 => by cases h7) (fun h8 => pd_ix (pd_var 3) pd_int)) (pds_cons (pd_var 6) (pds_cons (pd_var 5) pds_nil))))) rfl)
      | some e =>
        obtain ⟨x, ws⟩ := e
        refine sds_cons (sd_asg 6 sc_stretch_paper.nd (pd_ifExp (pq_cmp (cd_isN (pd_var 4))) (fun h1 => by cases h1) (fun h2 => (pd_call (fn_lowest_row T) hr (by decide) (pds_cons (pd_var 0) pds_nil) (.mk z h hn)))) ?_)
        exact sds_cons (sd_ret (pd_tup (pds_cons (pd_ifExp (pq_cmp (cd_isN (pd_var 4))) (fun h5 => by cases h5) (fun h6 => pd_ix (pd_var 4) pd_int)) (pds_cons (pd_ifExp (pq_cmp (cd_isN (pd_var 3))) (fun h7 => by cases h7) (fun h8 => pd_ix (pd_var 3) pd_int)) (pds_cons (pd_var 6) (pds_cons (pd_var 5) pds_nil))))) rfl)
theorem fn_stretch_paper (T : Tx K mg) : Fn P w K mg base 8 "stretch_paper" ["tellings", "clock"] [] (spD K R_stretch_paper) := Fn.mk_ T m_stretch_paper rfl g_stretch_paper (fun _ _ _ _ _ _ us hl => match us, hl with | [_, _], _ => rfl) fun fd F => ok_stretch_paper T F
theorem fk_stretch_paper (T : Tx K mg) : FnK P w K mg base 8 "stretch_paper" ["tellings", "clock"] ["clock", "tellings"] List.reverse (spD K R_stretch_paper) := FnK.mk_ T m_stretch_paper rfl g_stretch_paper (fun _ _ _ _ _ _ ws hl => match ws, hl with | [_, _], _ => rfl) fun fd F => ok_stretch_paper T F
end
end Gk
end

section
set_option linter.all false
set_option maxRecDepth 100000
namespace Gk
open PySem PySem.Spec PyProof.Rows L2 Evl
theorem sh_way {ws : List Step} {n : Nat} : sh (n + 2) (dWay ws) = true := sh_map fun s _ => sh_tup fun d hd => by
  rcases List.mem_cons.mp hd with rfl | hd
  · exact sh_int
  · rcases List.mem_cons.mp hd with rfl | hd
    · exact sh_int
    · cases hd
theorem sh_two {a b : PyData} {n : Nat} (h1 : sh n a = true) (h2 : sh n b = true) : sh (n + 1) (.tuple [a, b]) = true := sh_tup fun d hd => by
  rcases List.mem_cons.mp hd with rfl | hd
  · exact h1
  · rcases List.mem_cons.mp hd with rfl | hd
    · exact h2
    · cases hd
section
variable {P : Program} {w : World} {K : PySem.W.Frag} {mg : Str → Option Value} {base : Heap}
inductive R_way_holds : List PyData → Res → Prop
  | mk {D M : Nat} {ts : List Tel} {b e : Nat} (z : Sz D M) (h : Tels D M ts) (hn : NN (stepsOf ts)) (hb : b < 6) : R_way_holds [dTels ts, .int b, .int e, dO (dist (bfN (stepsOf ts) b 6).1 e), dWayO (gt (bfN (stepsOf ts) b 6).1 e)] (.dat (.bool true))
theorem sc_way_holds : FnScope ["tellings", "begin", "end", "bound", "thing"] ["tellings", "begin", "end", "bound", "thing"] (defScope s_way_holds) := ⟨rfl, rfl, rfl, by decide +kernel, rfl, by decide +kernel, by decide +kernel⟩
theorem fn_way_holds (T : Tx K mg) : Fn P w K mg base 5 "way_holds" ["tellings", "begin", "end", "bound", "thing"] [] (spD K R_way_holds) := by
  refine Fn.mk_ T m_way_holds rfl g_way_holds (fun _ _ _ _ _ _ us hl => match us, hl with | [_, _, _, _, _], _ => rfl) fun fd F => fn_body F sc_way_holds (by rintro _ _ ⟨⟩; rfl) fun cdv A outer s H E hr ds r hR => ?_
  cases hR with
  | @mk D0 M0 ts b e z h hn hb =>
    have B := bf_ok hn.pot hb
    cases hg : gt (bfN (stepsOf ts) b 6).1 e with
    | none =>
      have hd : dist (bfN (stepsOf ts) b 6).1 e = none := by unfold dist; rw [hg] <;> rfl
      rw [hd]
      refine sds_cons (sd_if (pq_cmp (cd_isN (pd_var 3))) (fun h1 => ?_) (fun h1 => by cases h1))
      exact sds_cons (sd_ret (pd_cmp (cd_isN (pd_var 4))) rfl)
    | some q =>
      obtain ⟨x, ws⟩ := q
      rw [dist_of hg]
      obtain ⟨w1, w2, w3, _, w5⟩ := B.way e x ws hg
      refine sds_cons (sd_if (pq_cmp (cd_isN (pd_var 3))) (fun h1 => by cases h1) (fun h1 => sds_nil ?_))
      have hq : PyData.eqv (.tuple [.int (endOf b ws : Nat), dP (sumF 0 ws)]) (.tuple [.int (e : Nat), dP x]) = true := by
        rw [w2, w3]
        exact eqv_self (n := 9) (sh_two sh_int sh_dP)
      exact sds_cons (sd_ret (pd_and (pd_cmp (cd_notN (pd_var 4))) fun h2 => (pd_one (pd_cmp (cd_eqV hq hr (pd_call (fn_walked T) hr (by decide) (pds_cons (pd_var 0) (pds_cons (pd_var 1) (pds_cons (pd_var 4) pds_nil))) (.mk z h w1 (by omega))) (pd_tup (pds_cons (pd_var 2) (pds_cons (pd_var 3) pds_nil))) (sh_two sh_int sh_dP) (sh_two sh_int sh_dP))))) rfl)
inductive R_end_holds : List PyData → Res → Prop
  | free {D M : Nat} {ts : List Tel} {c : Nat} {b : Bool} {l : List Nat} (h : Tels D M ts) (hl : l.length ≤ 1000) (hf : freeB b (stepsOf ts) c l = true) : R_end_holds [dTels ts, .int c, .none, sideD b, dNs l] (.dat (.bool true))
  | row {D M : Nat} {ts : List Tel} {c : Nat} {b : Bool} {q : Rat} {row : List Rat} (z : Sz D M) (h : Tels D M ts) (g : RowOk D M row) (g0 : row.getD 0 0 = 0) (hk : ((ts.map fun t => kept t row).all id) = true) (hc : c < 6) (hq : row.getD c 0 = q) : R_end_holds [dTels ts, .int c, dP q, sideD b, dRow row] (.dat (.bool true))
theorem sc_end_holds : FnScope ["tellings", "clock", "bound", "side", "thing"] ["tellings", "clock", "bound", "side", "thing"] (defScope s_end_holds) := ⟨rfl, rfl, rfl, by decide +kernel, rfl, by decide +kernel, by decide +kernel⟩
theorem fn_end_holds (T : Tx K mg) : Fn P w K mg base 6 "end_holds" ["tellings", "clock", "bound", "side", "thing"] [] (spD K R_end_holds) := by
  refine Fn.mk_ T m_end_holds rfl g_end_holds (fun _ _ _ _ _ _ us hl => match us, hl with | [_, _, _, _, _], _ => rfl) fun fd F => fn_body F sc_end_holds (by rintro _ _ ⟨⟩ <;> rfl) fun cdv A outer s H E hr ds r hR => ?_
  cases hR with
  | @free D0 M0 ts c b l h hl hf =>
    refine sds_cons (sd_if (pq_cmp (cd_isN (pd_var 2))) (fun h1 => ?_) (fun h1 => by cases h1))
    have hR : R_is_free [dTels ts, .int c, sideD b, dNs l] (.dat (.bool true)) := by
      rw [← hf]
      exact .mk h hl
    exact sds_cons (sd_ret (pd_call (fn_is_free T) hr (by decide) (pds_cons (pd_var 0) (pds_cons (pd_var 1) (pds_cons (pd_var 3) (pds_cons (pd_var 4) pds_nil)))) hR) rfl)
  | @row D0 M0 ts c b q row z h g g0 hk hc hq =>
    refine sds_cons (sd_if (pq_cmp (cd_isN (pd_var 2))) (fun h1 => by cases h1) (fun h1 => sds_nil ?_))
    have hR : R_keeps [dTels ts, dRow row] (.dat (.bool true)) := by
      rw [← hk]
      exact .mk z h g
    have he : PyData.eqv (dP (row.getD c 0)) (dP q) = true := by
      rw [hq]
      exact eqv_self (n := 9) sh_dP
    exact sds_cons (sd_ret (pd_and (pd_call (fn_is_row T) hr (by decide) (pds_cons (pd_var 4) pds_nil) (.mk g.len g0)) fun h2 => (pd_and (pd_call (fn_keeps T) hr (by decide) (pds_cons (pd_var 0) (pds_cons (pd_var 4) pds_nil)) hR) fun h3 => (pd_one (pd_cmp (cd_eqV he hr (pd_ix (pd_var 4) (pd_var 1) (at_map (z := 0) (by rw [g.len]; exact hc))) (pd_var 2) sh_dP sh_dP))))) rfl)
inductive R_paper_holds : List PyData → Res → Prop
  | mk {D M : Nat} {ts : List Tel} {c : Nat} (z : Sz2 D M) (h : Tels D M ts) (hn : NN (stepsOf ts)) (hc : 1 ≤ c) (h6 : c < 6) : R_paper_holds [dTels ts, .int c, paperD (stepsOf ts) c] (.dat (.bool true))
theorem sc_paper_holds : FnScope ["tellings", "clock", "thing", "low", "high", "back"] ["tellings", "clock", "thing"] (defScope s_paper_holds) := ⟨rfl, rfl, rfl, by decide +kernel, rfl, by decide +kernel, by decide +kernel⟩
theorem bnd_len {D M : Nat} {S : List Step} (hS : ∀ s ∈ S, StepOk D M s) {b : Bool} {c : Nat} (hc : c < 6) : (bnd b S c).length ≤ 1000 := by
  obtain ⟨q1, q2, _⟩ := bnd_inv (E := eqsS b S) (c := c) (R := fun x => x < 6) (fun e he _ => (eqs_lt hS e he).1) hc 6
  unfold bnd
  rw [up_len]
  have := nodup_six q1 q2
  omega
theorem ok_paper_holds (T : Tx K mg) {ds : List V} {fd : FuncData} (F : FunD K d_paper_holds.name d_paper_holds.qual (defArgs d_paper_holds.st) (defBody d_paper_holds.st) (defScope d_paper_holds.st) ds [] d_paper_holds.f fd) : FnOk P w K mg base CX0 8 d_paper_holds.f fd ["tellings", "clock", "thing"] (spD K R_paper_holds) := by
  refine fn_body F sc_paper_holds (by rintro _ _ ⟨⟩; rfl) fun cdv A outer s H E hr ds r hR => ?_
  cases hR with
  | @mk D0 M0 ts c z h hn hc h6 =>
    have h32 := steps_le h
    have hS := stepsOk h
    have hb : Tels D0 (2 ^ 20 * M0) ts := h.mono (Nat.le_mul_of_pos_left _ (by decide))
    refine sds_cons (sd_expr (pd_call (fn_need_tellings T) hr (by decide) (pds_cons (pd_var 0) pds_nil) (.mk z.toSz h)) ?_)
    refine sds_cons (sd_expr (pd_call (fn_need_other_clock T) hr (by decide) (pds_cons (pd_var 1) pds_nil) (.mk hc h6)) ?_)
    refine sds_cons (sd_expr (pd_call (fn_need_together T) hr (by decide) (pds_cons (pd_var 0) pds_nil) (.mk z.toSz h hn.pot)) ?_)
    refine sds_cons (sd_if (wq_q (wq_or (pq_not (pq_val (pd_isT T.toTxt (pd_var 2)))) fun h1 => (wq_or1 (pq_cmp (cd_neV (q := false) rfl hr (pd_lenT (pd_var 2) T.len) pd_int))))) (fun h2 => by cases h2) (fun h2 => sds_nil ?_))
    refine sds_cons (sd_asgT (pd_call (fn_stretch_by T) hr (by decide) (pds_cons (pd_var 0) (pds_cons (pd_var 1) (pds_cons pd_int pds_nil))) (.mk (o := 0) z.toSz h h6 (by decide))) (gd_tup (gds_cons (gd_name 3 sc_paper_holds.nd) (gds_cons (gd_name 4 sc_paper_holds.nd) gds_nil))) ?_)
    have w1 : R_way_holds [dTels ts, .int c, .int 0, dO (farD ts 0 c), dWayO (entD (stepsOf ts) c)] (.dat (.bool true)) := .mk (e := 0) z.toSz h hn h6
    have w2 : R_way_holds [dTels ts, .int 0, .int c, dO (farD ts c 0), dWayO (entU (stepsOf ts) c)] (.dat (.bool true)) := .mk (b := 0) z.toSz h hn (by decide)
    have e1 : R_end_holds [dTels ts, .int c, dO (lowD ts c 0), sideD true, leastD (stepsOf ts) c] (.dat (.bool true)) := by
      unfold lowD leastD
      cases hd : entD (stepsOf ts) c with
      | none =>
        have : farD ts 0 c = none := by unfold farD dist; rw [show gt (bfN (stepsOf ts) c 6).1 0 = none from hd] <;> rfl
        rw [this]
        exact .free h (bnd_len hS h6) (free_lo hS hn h6 hd)
      | some q =>
        obtain ⟨x, ws⟩ := q
        have hx : farD ts 0 c = some x := dist_of hd
        rw [hx]
        exact .row z.big hb (low_gr z h32 hS hn) (low_0 hn) (keeps_of (low_feas hn)) h6 (low_eq hn h6 hx)
    have e2 : R_end_holds [dTels ts, .int c, dO (farD ts c 0), sideD false, mostD (stepsOf ts) c] (.dat (.bool true)) := by
      unfold mostD
      cases hd : entU (stepsOf ts) c with
      | none =>
        have : farD ts c 0 = none := by unfold farD dist; rw [show gt (bfN (stepsOf ts) 0 6).1 c = none from hd] <;> rfl
        rw [this]
        exact .free h (bnd_len hS h6) (free_hi hS hn h6 hd)
      | some q =>
        obtain ⟨x, ws⟩ := q
        have hx : farD ts c 0 = some x := dist_of hd
        rw [hx]
        exact .row z.big hb (hi_gr z h32 hS hn) (hiRow_0 hn) (keeps_of (hi_feas hn)) h6 (hi_eq hn (bf_ok hn.pot (by decide)) hx)
    have hlow : lowD ts c 0 = negO (farD ts 0 c) := rfl
    refine sds_cons (sd_asg (d := dO (farD ts 0 c)) 5 sc_paper_holds.nd ?_ ?_)
    · rw [hlow]
      cases hf : farD ts 0 c with
      | none => exact (pd_ifExp (pq_cmp (cd_isN (pd_var 3))) (fun h3 => pd_non) (fun h4 => by cases h4))
      | some q =>
        have hq : dO (some q) = dP (- -q) := by rw [Rat.neg_neg] <;> rfl
        rw [hq]
        exact (pd_ifExp (pq_cmp (cd_isN (pd_var 3))) (fun h3 => by cases h3) (fun h4 => (pd_call (fn_turned T) hr (by decide) (pds_cons (pd_var 3) pds_nil) .mk)))
    refine sds_cons (sd_if (wq_q (wq_or (p := false) (pq_not (p := true) (pq_val (pd_call (fn_way_holds T) hr (by decide) (pds_cons (pd_var 0) (pds_cons (pd_var 1) (pds_cons pd_int (pds_cons (pd_var 5) (pds_cons (pd_ix (pd_var 2) pd_int) pds_nil))))) w1))) fun h5 => (wq_or1 (p := false) (pq_not (p := true) (pq_val (pd_call (fn_way_holds T) hr (by decide) (pds_cons (pd_var 0) (pds_cons pd_int (pds_cons (pd_var 1) (pds_cons (pd_var 4) (pds_cons (pd_ix (pd_var 2) pd_int) pds_nil))))) w2)))))) (fun h6 => by cases h6) (fun h6 => sds_nil ?_))
    exact sds_cons (sd_ret (pd_and (pd_call (fn_end_holds T) hr (by decide) (pds_cons (pd_var 0) (pds_cons (pd_var 1) (pds_cons (pd_var 3) (pds_cons pd_str (pds_cons (pd_ix (pd_var 2) pd_int) pds_nil))))) e1) fun h7 => (pd_one (pd_call (fn_end_holds T) hr (by decide) (pds_cons (pd_var 0) (pds_cons (pd_var 1) (pds_cons (pd_var 4) (pds_cons pd_str (pds_cons (pd_ix (pd_var 2) pd_int) pds_nil))))) e2))) rfl)
theorem fk_paper_holds (T : Tx K mg) : FnK P w K mg base 8 "paper_holds" ["tellings", "clock", "thing"] ["thing", "clock", "tellings"] List.reverse (spD K R_paper_holds) := FnK.mk_ T m_paper_holds rfl g_paper_holds (fun _ _ _ _ _ _ ws hl => match ws, hl with | [_, _, _], _ => rfl) fun fd F => ok_paper_holds T F
end
end Gk
end

section
set_option linter.all false
set_option maxRecDepth 100000
namespace Gk
open PySem PySem.Spec PyProof.Rows L2 Evl
/-! ## sizes by their bits -/
def Sk (k : Nat) (q : Rat) : Prop := q.num.natAbs < 2 ^ k ∧ q.den < 2 ^ k
theorem Sk.mono {k k' : Nat} {q : Rat} (h : Sk k q) (hk : k ≤ k') : Sk k' q := ⟨Nat.lt_of_lt_of_le h.1 (Nat.pow_le_pow_right (by decide) hk), Nat.lt_of_lt_of_le h.2 (Nat.pow_le_pow_right (by decide) hk)⟩
theorem Sk.sm {k : Nat} {q : Rat} (h : Sk k q) (hk : k ≤ 3000) : Sm q := h.mono hk
theorem Sk.neg {k : Nat} {q : Rat} (h : Sk k q) : Sk k (-q) := ⟨by rw [Rat.neg_num, Int.natAbs_neg]; exact h.1, by rw [Rat.neg_den]; exact h.2⟩
theorem sk_divInt {k : Nat} {t b : Int} (hb : 0 < b) (h1 : t.natAbs < 2 ^ k) (h2 : b.natAbs < 2 ^ k) : Sk k (Rat.divInt t b) := by
  obtain ⟨e1, e2⟩ := gcd_fac (t := t) hb
  refine ⟨?_, ?_⟩
  · rw [← e1]
    have hd : (Int.gcd t b : Int) ∣ t := Int.gcd_dvd_left t b
    rw [Int.natAbs_ediv_of_dvd hd]
    exact Nat.lt_of_le_of_lt (Nat.div_le_self _ _) h1
  · have h3 : (Rat.divInt t b).den ≤ b.natAbs := by
      have hd : (Int.gcd t b : Int) ∣ b := Int.gcd_dvd_right t b
      have h4 : ((Rat.divInt t b).den : Int).natAbs ≤ b.natAbs := by
        rw [← e2, Int.natAbs_ediv_of_dvd hd]
        exact Nat.div_le_self _ _
      rwa [Int.natAbs_natCast] at h4
    exact Nat.lt_of_le_of_lt h3 h2
theorem lt_mul2 {a b m n : Nat} (h1 : a < 2 ^ m) (h2 : b < 2 ^ n) : a * b < 2 ^ (m + n) := by
  rw [Nat.pow_add]
  have hp : 0 < 2 ^ n := Nat.pow_pos (by decide)
  calc a * b ≤ a * 2 ^ n := Nat.mul_le_mul (Nat.le_refl _) (Nat.le_of_lt h2)
    _ < 2 ^ m * 2 ^ n := Nat.mul_lt_mul_of_pos_right h1 hp
theorem Sk.add {j k : Nat} {p q : Rat} (h1 : Sk j p) (h2 : Sk k q) : Sk (j + k + 1) (p + q) := by
  have hp : (0 : Int) < p.den := Int.natCast_pos.mpr p.den_pos
  have hq : (0 : Int) < q.den := Int.natCast_pos.mpr q.den_pos
  have e := divInt_add (a := p.num) (c := q.num) hp hq
  rw [Rat.num_divInt_den, Rat.num_divInt_den] at e
  rw [← e]
  refine sk_divInt (Int.mul_pos hp hq) ?_ ?_
  · have a1 : (p.num * q.den).natAbs < 2 ^ (j + k) := by
      rw [Int.natAbs_mul, Int.natAbs_natCast]
      exact lt_mul2 h1.1 h2.2
    have a2 : (q.num * p.den).natAbs < 2 ^ (j + k) := by
      rw [Int.natAbs_mul, Int.natAbs_natCast, Nat.add_comm j k]
      exact lt_mul2 h2.1 h1.2
    have a3 := Int.natAbs_add_le (p.num * q.den) (q.num * p.den)
    rw [Nat.pow_succ]
    omega
  · rw [Int.natAbs_mul, Int.natAbs_natCast, Int.natAbs_natCast]
    exact Nat.lt_of_lt_of_le (lt_mul2 h1.2 h2.2) (Nat.pow_le_pow_right (by decide) (by omega))
theorem Sk.sub {j k : Nat} {p q : Rat} (h1 : Sk j p) (h2 : Sk k q) : Sk (j + k + 1) (p - q) := by
  rw [Rat.sub_eq_add_neg]
  exact h1.add h2.neg
theorem Sk.mul {j k : Nat} {p q : Rat} (h1 : Sk j p) (h2 : Sk k q) : Sk (j + k) (p * q) := by
  have hp : (0 : Int) < p.den := Int.natCast_pos.mpr p.den_pos
  have hq : (0 : Int) < q.den := Int.natCast_pos.mpr q.den_pos
  have e := Rat.divInt_mul_divInt p.num q.num (d₁ := p.den) (d₂ := q.den)
  rw [Rat.num_divInt_den, Rat.num_divInt_den] at e
  rw [e]
  refine sk_divInt (Int.mul_pos hp hq) ?_ ?_
  · rw [Int.natAbs_mul]
    exact lt_mul2 h1.1 h2.1
  · rw [Int.natAbs_mul, Int.natAbs_natCast, Int.natAbs_natCast]
    exact lt_mul2 h1.2 h2.2
theorem sk_zero {k : Nat} (h : 1 ≤ k) : Sk k 0 := by
  have : 2 ^ 1 ≤ 2 ^ k := Nat.pow_le_pow_right (by decide) h
  exact ⟨by show 0 < 2 ^ k; omega, by show 1 < 2 ^ k; omega⟩
/-! ## clocks -/
structure Clk where
  gain : Rat
  sets : List (Rat × Rat)
abbrev dSet (s : Rat × Rat) : PyData := .tuple [dP s.1, dP s.2]
abbrev dClk (c : Clk) : PyData := .tuple [dP c.gain, .tuple (c.sets.map dSet)]
structure ClkOk (c : Clk) : Prop where
  lo : -12 ≤ c.gain
  hi : c.gain ≤ 12
  sg : Sk 60 c.gain
  len : c.sets.length ≤ 6
  ok : ∀ s ∈ c.sets, 0 ≤ s.1 ∧ s.2 ≠ 0 ∧ Sk 60 s.1 ∧ Sk 60 s.2
  rise : ((c.sets.zip (c.sets.drop 1)).map fun p => decide (p.1.1 < p.2.1)).all id = true
def jumpsF (m : Rat) (sets : List (Rat × Rat)) (a : Rat) : Rat := sets.foldl (fun a s => if m < s.1 then a else a + s.2) a
def driftD (c : Clk) (m : Rat) : Rat := m * c.gain + jumpsF m c.sets 0
def shownD (c : Clk) (m e : Rat) : Rat := 24 * m + e + driftD c m
theorem jumps_sk {m : Rat} : ∀ {sets : List (Rat × Rat)} {a : Rat} {k : Nat}, (∀ s ∈ sets, Sk 60 s.2) → Sk k a → Sk (k + 61 * sets.length) (jumpsF m sets a)
  | [], a, k, _, h => h
  | s :: sets, a, k, hs, h => by
    have h1 : Sk (k + 61) (if m < s.1 then a else a + s.2) := by
      split
      · exact h.mono (by omega)
      · exact (h.add (hs s (List.mem_cons_self ..))).mono (by omega)
    have := jumps_sk (m := m) (sets := sets) (fun q hq => hs q (List.mem_cons_of_mem _ hq)) h1
    refine Sk.mono this ?_
    rw [List.length_cons]
    omega
theorem sk_24 : Sk 60 24 := ⟨by decide, by decide⟩
theorem drift_sk {c : Clk} {m : Rat} (h : ClkOk c) (hm : Sk 60 m) : Sk 600 (driftD c m) := by
  have h1 := hm.mul h.sg
  have h2 := jumps_sk (m := m) (sets := c.sets) (fun s hs => (h.ok s hs).2.2.2) (sk_zero (k := 1) (by decide))
  refine (h1.add h2).mono ?_
  have := h.len
  omega
section
variable {X : Cx} {e : Expr} {es : List Expr} {G : List Slot} {D : Lists} {d : PyData} {ds ex rs : List PyData} {pos p : Pos} {k n : Nat} {x : Str} {ps : List Str} {dvs : List V} {R : List PyData → Res → Prop}
theorem pd_callD (ex : List PyData) (F : Fn X.prog X.w X.K X.mg X.base k x ps dvs (spD X.K R)) (hx : ∀ H, Fts X.K H ex dvs) (hr : Room n X.A) (hk : k ≤ n) (ha : PDs X G D (e :: es) ds) (h : R (ds ++ ex) (.dat d)) (hg : Gl X x := by rfl) (hdb : (x == ("__debug__" : Str)) = false := by decide)
    (he : starEach (e :: es) X.env = (false, eval e X.env) :: starEach es X.env := by rfl) (hpl : (backTo pos (starEach es X.env)).any (·.1) = false := by rfl) : PD X G D (.Call (.Name x p) (e :: es) [] pos) d :=
  PE.by_ (pe_fn F hr hk ha hg hdb he hpl) fun t H Q ⟨E, q⟩ => ⟨E, fun vs H1 e1 f => ⟨ds ++ ex, _, f.app (hx H1), h, fun v H2 e2 r => q v H2 (e1.trans e2) r⟩⟩
theorem pl_callD (ex : List PyData) (F : Fn X.prog X.w X.K X.mg X.base k x ps dvs (spD X.K R)) (hx : ∀ H, Fts X.K H ex dvs) (hr : Room n X.A) (hk : k ≤ n) (ha : PDs X G D (e :: es) ds) (h : R (ds ++ ex) (.lst rs)) (hg : Gl X x := by rfl) (hdb : (x == ("__debug__" : Str)) = false := by decide)
    (he : starEach (e :: es) X.env = (false, eval e X.env) :: starEach es X.env := by rfl) (hpl : (backTo pos (starEach es X.env)).any (·.1) = false := by rfl) : PL X G D (.Call (.Name x p) (e :: es) [] pos) rs :=
  PE.by_ (pe_fn F hr hk ha hg hdb he hpl) fun t H Q ⟨E, q⟩ => ⟨E, fun vs H1 e1 f => by
    refine ⟨ds ++ ex, _, f.app (hx H1), h, fun v H2 e2 r => ?_⟩
    obtain ⟨a, us, rfl, h0, h1, h2⟩ := r
    exact q a us H2 (fresh_back e1 h0) (e1.trans e2) h1 h2⟩
end
section
variable {P : Program} {w : World} {K : PySem.W.Frag} {mg : Str → Option Value} {base : Heap}
inductive R_is_gain : List PyData → Res → Prop
  | mk {g : Rat} (h1 : -12 ≤ g) (h2 : g ≤ 12) (s : Sm g) : R_is_gain [dP g] (.dat (.bool true))
theorem sc_is_gain : FnScope ["thing"] ["thing"] (defScope s_is_gain) := ⟨rfl, rfl, rfl, by decide +kernel, rfl, by decide +kernel, by decide +kernel⟩
theorem fn_is_gain (T : Tx K mg) : Fn P w K mg base 3 "is_gain" ["thing"] [] (spD K R_is_gain) := by
  refine Fn.mk_ T m_is_gain rfl g_is_gain (fun _ _ _ _ _ _ us hl => match us, hl with | [_], _ => rfl) fun fd F => fn_body F sc_is_gain (by rintro _ _ ⟨⟩; rfl) fun cdv A outer s H E hr ds r hR => ?_
  cases hR with
  | mk h1 h2 sg =>
    have s12 : Sm 12 := Sk.sm (k := 60) ⟨by decide, by decide⟩ (by decide)
    have t12 : Sm (-12) := Sk.sm (k := 60) ⟨by decide, by decide⟩ (by decide)
    refine sds_cons (sd_ret (pd_and (pd_call (fn_is_part T) hr (by decide) (pds_cons (pd_var 0) pds_nil) .mk) fun h1 => (pd_and (pd_not (pd_call (fn_below T) hr (by decide) (pds_cons (pd_var 0) (pds_cons (k_LEAST_GAIN T) pds_nil)) (.mk sg t12))) fun h2 => (pd_one (pd_not (pd_call (fn_below T) hr (by decide) (pds_cons (k_MOST_GAIN T) (pds_cons (pd_var 0) pds_nil)) (.mk s12 sg)))))) ?_)
    rw [not_lt_dec, not_lt_dec, decide_eq_true h1, decide_eq_true h2] <;> rfl
inductive R_is_moment : List PyData → Res → Prop
  | mk {q : Rat} (h : 0 ≤ q) : R_is_moment [dP q] (.dat (.bool true))
theorem sc_is_moment : FnScope ["thing"] ["thing"] (defScope s_is_moment) := ⟨rfl, rfl, rfl, by decide +kernel, rfl, by decide +kernel, by decide +kernel⟩
theorem fn_is_moment (T : Tx K mg) : Fn P w K mg base 3 "is_moment" ["thing"] [] (spD K R_is_moment) := by
  refine Fn.mk_ T m_is_moment rfl g_is_moment (fun _ _ _ _ _ _ us hl => match us, hl with | [_], _ => rfl) fun fd F => fn_body F sc_is_moment (by rintro _ _ ⟨⟩; rfl) fun cdv A outer s H E hr ds r hR => ?_
  cases hR with
  | mk h =>
    refine sds_cons (sd_ret (pd_and (pd_call (fn_is_part T) hr (by decide) (pds_cons (pd_var 0) pds_nil) .mk) fun h1 => (pd_one (pd_cmp (cd_ge (pd_ix (pd_var 0) pd_int) pd_int)))) ?_)
    rw [decide_eq_true (Rat.num_nonneg.mpr h)] <;> rfl
inductive R_is_set : List PyData → Res → Prop
  | mk {s : Rat × Rat} (h : 0 ≤ s.1) (h2 : s.2 ≠ 0) : R_is_set [dSet s] (.dat (.bool true))
theorem sc_is_set : FnScope ["thing"] ["thing"] (defScope s_is_set) := ⟨rfl, rfl, rfl, by decide +kernel, rfl, by decide +kernel, by decide +kernel⟩
theorem fn_is_set (T : Tx K mg) : Fn P w K mg base 4 "is_set" ["thing"] [] (spD K R_is_set) := by
  refine Fn.mk_ T m_is_set rfl g_is_set (fun _ _ _ _ _ _ us hl => match us, hl with | [_], _ => rfl) fun fd F => fn_body F sc_is_set (by rintro _ _ ⟨⟩; rfl) fun cdv A outer s H E hr ds r hR => ?_
  cases hR with
  | @mk st h h2 =>
    have hq : (!PyData.eqv (dP st.2) (dP 0)) = true := by rw [eqv_dP, decide_eq_false h2] <;> rfl
    refine sds_cons (sd_if (wq_q (wq_or (pq_not (pq_val (pd_isT T.toTxt (pd_var 0)))) fun h1 => (wq_or1 (pq_cmp (cd_ne' hr (pd_lenT (pd_var 0) T.len) pd_int))))) (fun h2 => by cases h2) (fun h2 => sds_nil ?_))
    exact sds_cons (sd_ret (pd_and (pd_call (fn_is_moment T) hr (by decide) (pds_cons (pd_ix (pd_var 0) pd_int) pds_nil) (.mk h)) fun h3 => (pd_and (pd_call (fn_is_part T) hr (by decide) (pds_cons (pd_ix (pd_var 0) pd_int) pds_nil) .mk) fun h4 => (pd_one (pd_cmp (cd_neV hq hr (pd_ix (pd_var 0) pd_int) (k_NOUGHT T) sh_dP sh_dP))))) rfl)
inductive R_is_clock : List PyData → Res → Prop
  | mk {c : Clk} (h : ClkOk c) : R_is_clock [dClk c] (.dat (.bool true))
theorem sc_is_clock : FnScope ["thing", "one", "later"] ["thing"] (defScope s_is_clock) := ⟨rfl, rfl, rfl, by decide +kernel, rfl, by decide +kernel, by decide +kernel⟩
theorem ok_is_clock (T : Tx K mg) {ds : List V} {fd : FuncData} (F : FunD K d_is_clock.name d_is_clock.qual (defArgs d_is_clock.st) (defBody d_is_clock.st) (defScope d_is_clock.st) ds [] d_is_clock.f fd) : FnOk P w K mg base CX0 5 d_is_clock.f fd ["thing"] (spD K R_is_clock) := by
  refine fn_body F sc_is_clock (by rintro _ _ ⟨⟩; rfl) fun cdv A outer s H E hr ds r hR => ?_
  cases hR with
  | @mk c h =>
    have hl := h.len
    have hz : pairs (c.sets.map dSet) (cutD (c.sets.map dSet) (some 1) none) = (c.sets.zip (c.sets.drop 1)).map fun p => .tuple [dSet p.1, dSet p.2] := by
      rw [cut_one, ← List.map_drop, pairs_zip]
    refine sds_cons (sd_if (wq_q (wq_or (pq_not (pq_val (pd_isT T.toTxt (pd_var 0)))) fun h1 => (wq_or (pq_cmp (cd_ne' hr (pd_lenT (pd_var 0) T.len) pd_int)) fun h2 => (wq_or (p := false) (pq_not (p := true) (pq_val (pd_call (fn_is_gain T) hr (by decide) (pds_cons (pd_ix (pd_var 0) pd_int) pds_nil) (.mk h.lo h.hi (h.sg.sm (by decide)))))) fun h3 => (wq_or1 (pq_not (pq_val (pd_isT T.toTxt (pd_ix (d := .tuple (c.sets.map dSet)) (pd_var 0) pd_int))))))))) (fun h4 => by cases h4) (fun h4 => sds_nil ?_))
    refine sds_cons (sd_if (wq_q (wq_or (pq_cmp (cd_gt (pd_lenT (pd_ix (pd_var 0) pd_int) T.len) (k_MOST_SETS T))) fun h5 => (wq_or1 (pq_not (pq_val (pd_all rfl (pl_r (pl_lc (own := [("one", 1)]) (lc_bool dSet c.sets (fun _ => true) (fun x hx => ⟨_, (fun _ _ _ _ _ => (gd_name 1 sc_is_clock.nd)), (fun _ _ _ _ _ => qs_nil), fun _ _ _ _ _ _ => (pd_call (fn_is_set T) hr (by decide) (pds_cons (pd_var 1) pds_nil) (.mk (h.ok x hx).1 (h.ok x hx).2.1))⟩) (by omega) (id_tup (pd_ix (pd_var 0) pd_int))) sc_is_clock.nd (blkOk_by rfl))) T.all)))))) (fun h6 => ?_) (fun h6 => sds_nil ?_))
    · rw [all_true, List.length_map, decide_eq_false (by omega)] at h6
      cases h6
    refine sds_cons (sd_ret (pd_all rfl (pl_r (pl_lc (own := [("one", 1), ("later", 2)]) (lc_bool (fun p : (Rat × Rat) × (Rat × Rat) => .tuple [dSet p.1, dSet p.2]) (c.sets.zip (c.sets.drop 1)) (fun p => decide (p.1.1 < p.2.1)) (fun x hx => ⟨_, (fun _ _ _ _ _ => (gd_tup (gds_cons (gd_name 1 sc_is_clock.nd) (gds_cons (gd_name 2 sc_is_clock.nd) gds_nil)))), (fun _ _ _ _ _ => qs_nil), fun _ _ _ _ _ _ => (pd_call (fn_below T) hr (by decide) (pds_cons (pd_ix (pd_var 1) pd_int) (pds_cons (pd_ix (pd_var 2) pd_int) pds_nil)) (.mk ?_ ?_))⟩) (by rw [List.length_zip]; omega) (by rw [← hz]; exact id_zip (pd_ix (pd_var 0) pd_int) (pd_slice (pd_ix (pd_var 0) pd_int) (qo_some pd_int) qo_none) T.zip)) sc_is_clock.nd (blkOk_by rfl))) T.all) ?_)
    · exact ((h.ok x.1 (List.of_mem_zip hx).1).2.2.1).sm (by decide)
    · exact ((h.ok x.2 (List.mem_of_mem_drop (List.of_mem_zip hx).2)).2.2.1).sm (by decide)
    · rw [h.rise]
theorem fk_is_clock (T : Tx K mg) : FnK P w K mg base 5 "is_clock" ["thing"] ["thing"] List.reverse (spD K R_is_clock) := FnK.mk_ T m_is_clock rfl g_is_clock (fun _ _ _ _ _ _ ws hl => match ws, hl with | [_], _ => rfl) fun fd F => ok_is_clock T F
theorem fn_is_clock (T : Tx K mg) : Fn P w K mg base 5 "is_clock" ["thing"] [] (spD K R_is_clock) := Fn.mk_ T m_is_clock rfl g_is_clock (fun _ _ _ _ _ _ us hl => match us, hl with | [_], _ => rfl) fun fd F => ok_is_clock T F
inductive R_need_clock : List PyData → Res → Prop
  | mk {c : Clk} (h : ClkOk c) : R_need_clock [dClk c] (.dat .none)
theorem sc_need_clock : FnScope ["clock"] ["clock"] (defScope s_need_clock) := ⟨rfl, rfl, rfl, by decide +kernel, rfl, by decide +kernel, by decide +kernel⟩
theorem fn_need_clock (T : Tx K mg) : Fn P w K mg base 6 "need_clock" ["clock"] [] (spD K R_need_clock) := by
  refine Fn.mk_ T m_need_clock rfl g_need_clock (fun _ _ _ _ _ _ us hl => match us, hl with | [_], _ => rfl) fun fd F => fn_body F sc_need_clock (by rintro _ _ ⟨⟩; rfl) fun cdv A outer s H E hr ds r hR => ?_
  cases hR with
  | mk h => exact sds_cons (sd_if (pq_not (pq_val (pd_call (fn_is_clock T) hr (by decide) (pds_cons (pd_var 0) pds_nil) (.mk h)))) (fun h1 => by cases h1) (fun _ => sds_nil (sds_nil rfl)))
inductive R_need_moment : List PyData → Res → Prop
  | mk {q : Rat} (h : 0 ≤ q) : R_need_moment [dP q] (.dat .none)
theorem sc_need_moment : FnScope ["moment"] ["moment"] (defScope s_need_moment) := ⟨rfl, rfl, rfl, by decide +kernel, rfl, by decide +kernel, by decide +kernel⟩
theorem fn_need_moment (T : Tx K mg) : Fn P w K mg base 4 "need_moment" ["moment"] [] (spD K R_need_moment) := by
  refine Fn.mk_ T m_need_moment rfl g_need_moment (fun _ _ _ _ _ _ us hl => match us, hl with | [_], _ => rfl) fun fd F => fn_body F sc_need_moment (by rintro _ _ ⟨⟩; rfl) fun cdv A outer s H E hr ds r hR => ?_
  cases hR with
  | mk h => exact sds_cons (sd_if (pq_not (pq_val (pd_call (fn_is_moment T) hr (by decide) (pds_cons (pd_var 0) pds_nil) (.mk h)))) (fun h1 => by cases h1) (fun _ => sds_nil (sds_nil rfl)))
inductive R_own_error : List PyData → Res → Prop
  | mk {e : Option Rat} : R_own_error [dO e] (.dat (dP (e.getD 0)))
theorem sc_own_error : FnScope ["error"] ["error"] (defScope s_own_error) := ⟨rfl, rfl, rfl, by decide +kernel, rfl, by decide +kernel, by decide +kernel⟩
theorem fn_own_error (T : Tx K mg) : Fn P w K mg base 4 "own_error" ["error"] [] (spD K R_own_error) := by
  refine Fn.mk_ T m_own_error rfl g_own_error (fun _ _ _ _ _ _ us hl => match us, hl with | [_], _ => rfl) fun fd F => fn_body F sc_own_error (by rintro _ _ ⟨⟩; rfl) fun cdv A outer s H E hr ds r hR => ?_
  cases hR with
  | @mk e =>
    cases e with
    | none => exact sds_cons (sd_if (pq_cmp (cd_isN (pd_var 0))) (fun h1 => sds_cons (sd_ret (k_NOUGHT T) rfl)) (fun h1 => by cases h1))
    | some q =>
      refine sds_cons (sd_if (pq_cmp (cd_isN (pd_var 0))) (fun h1 => by cases h1) (fun h1 => sds_nil ?_))
      refine sds_cons (sd_expr (pd_call (fn_need_part T) hr (by decide) (pds_cons (pd_var 0) pds_nil) .mk) ?_)
      exact sds_cons (sd_ret (pd_var 0) rfl)
inductive R_jumps_till : List PyData → Res → Prop
  | mk {c : Clk} {m : Rat} (h : ClkOk c) (hm : Sk 60 m) : R_jumps_till [dClk c, dP m] (.dat (dP (jumpsF m c.sets 0)))
theorem sc_jumps_till : FnScope ["clock", "moment", "found", "when", "jump"] ["clock", "moment"] (defScope s_jumps_till) := ⟨rfl, rfl, rfl, by decide +kernel, rfl, by decide +kernel, by decide +kernel⟩
theorem fn_jumps_till (T : Tx K mg) : Fn P w K mg base 4 "jumps_till" ["clock", "moment"] [] (spD K R_jumps_till) := by
  refine Fn.mk_ T m_jumps_till rfl g_jumps_till (fun _ _ _ _ _ _ us hl => match us, hl with | [_, _], _ => rfl) fun fd F => fn_body F sc_jumps_till (by rintro _ _ ⟨⟩; rfl) fun cdv A outer s H E hr ds r hR => ?_
  cases hR with
  | @mk c m h hm =>
    have hl := h.len
    refine sds_cons (sd_asg 2 sc_jumps_till.nd (k_NOUGHT T) ?_)
    refine sds_cons (sd_for (is := [3, 4]) dSet c.sets (fun i M G D => D = [] ∧ ∃ a3 a4, G = [.dat (dClk c), .dat (dP m), .dat (dP (jumpsF m (c.sets.take i) 0)), a3, a4]) (id_tup (pd_ix (pd_var 0) pd_int)) ?_ (fun i x M G D hx hP => ?_) (fun M G D hP => ?_))
    · exact ⟨rfl, _, _, rfl⟩
    · obtain ⟨rfl, a3, a4, rfl⟩ := hP
      obtain ⟨x1, x2, x3, x4⟩ := h.ok x (List.mem_of_getElem? hx)
      have hlt : (c.sets.take i).length ≤ 6 := by rw [List.length_take]; omega
      have sj := jumps_sk (m := m) (sets := c.sets.take i) (fun s hs => (h.ok s (List.mem_of_mem_take hs)).2.2.2) (sk_zero (k := 1) (by decide))
      have e1 : jumpsF m (c.sets.take (i + 1)) 0 = if m < x.1 then jumpsF m (c.sets.take i) 0 else jumpsF m (c.sets.take i) 0 + x.2 := by
        unfold jumpsF
        rw [List.take_add_one, hx, List.foldl_append] <;> rfl
      rw [e1]
      refine ⟨_, (gd_tup (gds_cons (gd_name 3 sc_jumps_till.nd) (gds_cons (gd_name 4 sc_jumps_till.nd) gds_nil))), ?_⟩
      refine sds_cons (sd_if (pq_not (pq_val (pd_call (fn_below T) hr (by decide) (pds_cons (pd_var 1) (pds_cons (pd_var 3) pds_nil)) (.mk (hm.sm (by decide)) (x3.sm (by decide)))))) (fun h1 => ?_) (fun h1 => ?_))
      · have h2 : ¬ m < x.1 := fun z => by
          rw [decide_eq_true z] at h1
          cases h1
        rw [if_neg h2]
        exact sds_cons (sd_asg 2 sc_jumps_till.nd (pd_call (fn_plus T) hr (by decide) (pds_cons (pd_var 2) (pds_cons (pd_var 4) pds_nil)) (.mk (sj.sm (by omega)) (x4.sm (by decide)))) (sds_nil (sds_nil ⟨rfl, _, _, rfl⟩)))
      · have h2 : m < x.1 := Decidable.byContradiction fun z => by
          rw [decide_eq_false z] at h1
          cases h1
        rw [if_pos h2]
        exact sds_nil (sds_nil ⟨rfl, _, _, rfl⟩)
    · obtain ⟨rfl, a3, a4, rfl⟩ := hP
      rw [List.take_length]
      exact sds_cons (sd_ret (pd_var 2) rfl)
inductive R_drift_by : List PyData → Res → Prop
  | mk {c : Clk} {m : Rat} (h : ClkOk c) (hm : Sk 60 m) : R_drift_by [dClk c, dP m] (.dat (dP (driftD c m)))
theorem sc_drift_by : FnScope ["clock", "moment"] ["clock", "moment"] (defScope s_drift_by) := ⟨rfl, rfl, rfl, by decide +kernel, rfl, by decide +kernel, by decide +kernel⟩
theorem fn_drift_by (T : Tx K mg) : Fn P w K mg base 5 "drift_by" ["clock", "moment"] [] (spD K R_drift_by) := by
  refine Fn.mk_ T m_drift_by rfl g_drift_by (fun _ _ _ _ _ _ us hl => match us, hl with | [_, _], _ => rfl) fun fd F => fn_body F sc_drift_by (by rintro _ _ ⟨⟩; rfl) fun cdv A outer s H E hr ds r hR => ?_
  cases hR with
  | @mk c m h hm =>
    have hl := h.len
    have sj := jumps_sk (m := m) (sets := c.sets) (fun s hs => (h.ok s hs).2.2.2) (sk_zero (k := 1) (by decide))
    exact sds_cons (sd_ret (pd_call (fn_plus T) hr (by decide) (pds_cons (pd_call (fn_product T) hr (by decide) (pds_cons (pd_var 1) (pds_cons (pd_ix (pd_var 0) pd_int) pds_nil)) (.mk (hm.sm (by decide)) (h.sg.sm (by decide)))) (pds_cons (pd_call (fn_jumps_till T) hr (by decide) (pds_cons (pd_var 0) (pds_cons (pd_var 1) pds_nil)) (.mk h hm)) pds_nil)) (.mk ((hm.mul h.sg).sm (by decide)) (sj.sm (by omega)))) rfl)
inductive R_drift : List PyData → Res → Prop
  | mk {c : Clk} {m : Rat} (h : ClkOk c) (hm : Sk 60 m) (h0 : 0 ≤ m) : R_drift [dClk c, dP m] (.dat (dP (driftD c m)))
theorem sc_drift : FnScope ["clock", "moment"] ["clock", "moment"] (defScope s_drift) := ⟨rfl, rfl, rfl, by decide +kernel, rfl, by decide +kernel, by decide +kernel⟩
theorem ok_drift (T : Tx K mg) {ds : List V} {fd : FuncData} (F : FunD K d_drift.name d_drift.qual (defArgs d_drift.st) (defBody d_drift.st) (defScope d_drift.st) ds [] d_drift.f fd) : FnOk P w K mg base CX0 7 d_drift.f fd ["clock", "moment"] (spD K R_drift) := by
  refine fn_body F sc_drift (by rintro _ _ ⟨⟩; rfl) fun cdv A outer s H E hr ds r hR => ?_
  cases hR with
  | mk h hm h0 =>
    refine sds_cons (sd_expr (pd_call (fn_need_clock T) hr (by decide) (pds_cons (pd_var 0) pds_nil) (.mk h)) ?_)
    refine sds_cons (sd_expr (pd_call (fn_need_moment T) hr (by decide) (pds_cons (pd_var 1) pds_nil) (.mk h0)) ?_)
    exact sds_cons (sd_ret (pd_call (fn_drift_by T) hr (by decide) (pds_cons (pd_var 0) (pds_cons (pd_var 1) pds_nil)) (.mk h hm)) rfl)
theorem fn_drift (T : Tx K mg) : Fn P w K mg base 7 "drift" ["clock", "moment"] [] (spD K R_drift) := Fn.mk_ T m_drift rfl g_drift (fun _ _ _ _ _ _ us hl => match us, hl with | [_, _], _ => rfl) fun fd F => ok_drift T F
theorem fk_drift (T : Tx K mg) : FnK P w K mg base 7 "drift" ["clock", "moment"] ["moment", "clock"] List.reverse (spD K R_drift) := FnK.mk_ T m_drift rfl g_drift (fun _ _ _ _ _ _ ws hl => match ws, hl with | [_, _], _ => rfl) fun fd F => ok_drift T F
inductive R_shown_by : List PyData → Res → Prop
  | mk {c : Clk} {m e : Rat} (h : ClkOk c) (hm : Sk 60 m) (he : Sk 60 e) : R_shown_by [dClk c, dP m, dP e] (.dat (dP (shownD c m e)))
theorem sc_shown_by : FnScope ["clock", "moment", "error"] ["clock", "moment", "error"] (defScope s_shown_by) := ⟨rfl, rfl, rfl, by decide +kernel, rfl, by decide +kernel, by decide +kernel⟩
theorem fn_shown_by (T : Tx K mg) : Fn P w K mg base 6 "shown_by" ["clock", "moment", "error"] [] (spD K R_shown_by) := by
  refine Fn.mk_ T m_shown_by rfl g_shown_by (fun _ _ _ _ _ _ us hl => match us, hl with | [_, _, _], _ => rfl) fun fd F => fn_body F sc_shown_by (by rintro _ _ ⟨⟩; rfl) fun cdv A outer s H E hr ds r hR => ?_
  cases hR with
  | mk h hm he =>
    exact sds_cons (sd_ret (pd_call (fn_plus T) hr (by decide) (pds_cons (pd_call (fn_plus T) hr (by decide) (pds_cons (pd_call (fn_product T) hr (by decide) (pds_cons (k_HOURS T) (pds_cons (pd_var 1) pds_nil)) (.mk (sk_24.sm (by decide)) (hm.sm (by decide)))) (pds_cons (pd_var 2) pds_nil)) (.mk ((sk_24.mul hm).sm (by decide)) (he.sm (by decide)))) (pds_cons (pd_call (fn_drift_by T) hr (by decide) (pds_cons (pd_var 0) (pds_cons (pd_var 1) pds_nil)) (.mk h hm)) pds_nil)) (.mk (((sk_24.mul hm).add he).sm (by decide)) ((drift_sk h hm).sm (by decide)))) rfl)
inductive R_shown_at : List PyData → Res → Prop
  | mk {c : Clk} {m : Rat} {e : Option Rat} (h : ClkOk c) (hm : Sk 60 m) (h0 : 0 ≤ m) (he : Sk 60 (e.getD 0)) : R_shown_at [dClk c, dP m, dO e] (.dat (dP (shownD c m (e.getD 0))))
theorem sc_shown_at : FnScope ["clock", "moment", "error"] ["clock", "moment", "error"] (defScope s_shown_at) := ⟨rfl, rfl, rfl, by decide +kernel, rfl, by decide +kernel, by decide +kernel⟩
theorem ok_shown_at (T : Tx K mg) {ds : List V} {fd : FuncData} (F : FunD K d_shown_at.name d_shown_at.qual (defArgs d_shown_at.st) (defBody d_shown_at.st) (defScope d_shown_at.st) ds [] d_shown_at.f fd) : FnOk P w K mg base CX0 7 d_shown_at.f fd ["clock", "moment", "error"] (spD K R_shown_at) := by
  refine fn_body F sc_shown_at (by rintro _ _ ⟨⟩; rfl) fun cdv A outer s H E hr ds r hR => ?_
  cases hR with
  | mk h hm h0 he =>
    refine sds_cons (sd_expr (pd_call (fn_need_clock T) hr (by decide) (pds_cons (pd_var 0) pds_nil) (.mk h)) ?_)
    refine sds_cons (sd_expr (pd_call (fn_need_moment T) hr (by decide) (pds_cons (pd_var 1) pds_nil) (.mk h0)) ?_)
    exact sds_cons (sd_ret (pd_call (fn_shown_by T) hr (by decide) (pds_cons (pd_var 0) (pds_cons (pd_var 1) (pds_cons (pd_call (fn_own_error T) hr (by decide) (pds_cons (pd_var 2) pds_nil) .mk) pds_nil))) (.mk h hm he)) rfl)
theorem fn_shown_at (T : Tx K mg) : Fn P w K mg base 7 "shown_at" ["clock", "moment", "error"] [] (spD K R_shown_at) := Fn.mkD (vs := [.non]) 3 1 T m_shown_at rfl (List.mem_of_getElem? (i := 1) rfl) (by simp) rfl g_shown_at (fun _ _ _ _ _ _ _ us its h1 h2 => match us, its, h1, h2 with | [_, _, _], [_], _, _ => ⟨_, rfl, rfl⟩) fun fd F => ok_shown_at T F
theorem fk_shown_at (T : Tx K mg) : FnK P w K mg base 7 "shown_at" ["clock", "moment", "error"] ["error", "moment", "clock"] (fun ds => ds.reverse ++ []) (spD K R_shown_at) := FnK.mkD (vs := [.non]) [] 1 T m_shown_at rfl (List.mem_of_getElem? (i := 1) rfl) (by simp) g_shown_at (fun _ _ _ _ _ _ _ us its ws h1 h2 h3 => match us, its, ws, h1, h2, h3 with | [], [_], [_, _, _], _, _, _ => ⟨_, rfl, rfl⟩) (fun H => rfl) fun fd F => ok_shown_at T F
theorem fk0_shown_at (T : Tx K mg) : FnK P w K mg base 7 "shown_at" ["clock", "moment", "error"] ["moment", "clock"] (fun ds => ds.reverse ++ [.none]) (spD K R_shown_at) := FnK.mkD (vs := [.non]) [.none] 0 T m_shown_at rfl (List.mem_of_getElem? (i := 1) rfl) (by simp) g_shown_at (fun _ _ _ _ _ _ _ us its ws h1 h2 h3 => match us, its, ws, h1, h2, h3 with | [], [_], [_, _], _, _, _ => ⟨_, rfl, rfl⟩) (fun H => Fts.one rfl) fun fd F => ok_shown_at T F
end
end Gk
end

section
set_option linter.all false
set_option maxRecDepth 100000
namespace Gk
open PySem PySem.Spec PyProof.Rows L2 Evl
structure Str3 where
  b : Rat
  e : Option Rat
  j : Rat
abbrev dStr (s : Str3) : PyData := .tuple [dP s.b, dO s.e, dP s.j]
def stretL : Rat → Rat → List (Rat × Rat) → List Str3
  | b, j, [] => [⟨b, none, j⟩]
  | b, j, s :: r => ⟨b, some s.1, j⟩ :: stretL s.1 (j + s.2) r
theorem stretL_len : ∀ (sets : List (Rat × Rat)) (b j : Rat), (stretL b j sets).length = sets.length + 1
  | [], _, _ => rfl
  | s :: r, b, j => congrArg Nat.succ (stretL_len r _ _)
theorem stretL_sk : ∀ {sets : List (Rat × Rat)} {b j : Rat} {k : Nat}, (∀ s ∈ sets, Sk 60 s.1 ∧ Sk 60 s.2) → Sk 60 b → Sk k j → ∀ x ∈ stretL b j sets, Sk 60 x.b ∧ (∀ q, x.e = some q → Sk 60 q) ∧ Sk (k + 61 * sets.length) x.j
  | [], b, j, k, _, hb, hj, x, hx => by
    rw [List.mem_singleton.mp hx]
    exact ⟨hb, (fun q h => by cases h), hj⟩
  | s :: r, b, j, k, hs, hb, hj, x, hx => by
    have h0 := hs s (List.mem_cons_self ..)
    rcases List.mem_cons.mp hx with rfl | hx
    · exact ⟨hb, (fun q h => by cases h; exact h0.1), hj.mono (by omega)⟩
    · obtain ⟨a1, a2, a3⟩ := stretL_sk (sets := r) (k := k + 61) (fun q hq => hs q (List.mem_cons_of_mem _ hq)) h0.1 ((hj.add h0.2).mono (by omega)) x hx
      refine ⟨a1, a2, a3.mono ?_⟩
      rw [List.length_cons]
      omega
def rateD (c : Clk) : Rat := 24 + c.gain
def momQ (c : Clk) (hour own : Rat) (x : Str3) : Rat := Rat.divInt ((hour - (own + x.j)).num * (rateD c).den) ((hour - (own + x.j)).den * (rateD c).num)
def momL (m : Rat) : Option Rat → Bool
  | none => true
  | some q => decide (m < q)
def momT (m b : Rat) (e : Option Rat) : Bool := !decide (m < b) && (isNone (dO e) || momL m e)
def momAt (c : Clk) (hour own : Rat) (x : Str3) : List Rat := if momT (momQ c hour own x) x.b x.e = true then [momQ c hour own x] else []
def momsD (c : Clk) (hour own : Rat) : List Rat := (stretL 0 0 c.sets).flatMap (momAt c hour own)
def chgs (c : Clk) (e : Rat) : Rat → List (Rat × Rat) → List (Rat × Rat)
  | _, [] => []
  | j, s :: r => (rateD c * s.1 + e + j, rateD c * s.1 + e + j + s.2) :: chgs c e (j + s.2) r
theorem momAt_len {c : Clk} {hour own : Rat} (x : Str3) : (momAt c hour own x).length ≤ 2 := by
  unfold momAt
  split <;> simp
section
variable {P : Program} {w : World} {K : PySem.W.Frag} {mg : Str → Option Value} {base : Heap}
inductive R_stretches_of : List PyData → Res → Prop
  | mk {c : Clk} (h : ClkOk c) : R_stretches_of [dClk c] (.lst ((stretL 0 0 c.sets).map dStr))
theorem sc_stretches_of : FnScope ["clock", "found", "begin", "jumps", "when", "jump"] ["clock"] (defScope s_stretches_of) := ⟨rfl, rfl, rfl, by decide +kernel, rfl, by decide +kernel, by decide +kernel⟩
theorem fn_stretches_of (T : Tx K mg) : Fn P w K mg base 4 "stretches_of" ["clock"] [] (spD K R_stretches_of) := by
  refine Fn.mk_ T m_stretches_of rfl g_stretches_of (fun _ _ _ _ _ _ us hl => match us, hl with | [_], _ => rfl) fun fd F => fn_body F sc_stretches_of (by rintro _ _ ⟨⟩; rfl) fun cdv A outer s H E hr ds r hR => ?_
  cases hR with
  | @mk c h =>
    have hl := h.len
    refine sds_cons (sd_asgL 1 sc_stretches_of.nd (pl_lst pds_nil) fun l1 => ?_)
    refine sds_cons (sd_par 2 3 sc_stretches_of.nd (k_NOUGHT T) (k_NOUGHT T) ?_)
    refine sds_cons (sd_for (is := [4, 5]) dSet c.sets (fun i M G D => M = [l1] ∧ ∃ (done : List Str3) (b j : Rat) (a4 a5 : Slot), D = [(l1, done.map dStr)] ∧ G = [.dat (dClk c), .ref l1, .dat (dP b), .dat (dP j), a4, a5] ∧ done.length = i ∧ done ++ stretL b j (c.sets.drop i) = stretL 0 0 c.sets ∧ Sk (1 + 61 * i) j) (id_tup (pd_ix (pd_var 0) pd_int)) ?_ (fun i x M G D hx hP => ?_) (fun M G D hP => ?_))
    · exact ⟨rfl, [], 0, 0, _, _, rfl, rfl, rfl, rfl, sk_zero (by decide)⟩
    · obtain ⟨rfl, done, b, j, a4, a5, rfl, rfl, hd, he, hj⟩ := hP
      obtain ⟨x1, x2, x3, x4⟩ := h.ok x (List.mem_of_getElem? hx)
      have hi : i < 6 := by have := (List.getElem?_eq_some_iff.mp hx).1; omega
      rw [drop_get hx] at he
      refine ⟨_, (gd_tup (gds_cons (gd_name 4 sc_stretches_of.nd) (gds_cons (gd_name 5 sc_stretches_of.nd) gds_nil))), ?_⟩
      refine sds_cons (sd_app (D1 := []) 1 (pd_tup (pds_cons (pd_var 2) (pds_cons (pd_var 4) (pds_cons (pd_var 3) pds_nil)))) (by rw [List.length_map]; omega) ?_)
      refine sds_cons (sd_par 2 3 sc_stretches_of.nd (pd_var 4) (pd_call (fn_plus T) hr (by decide) (pds_cons (pd_var 3) (pds_cons (pd_var 5) pds_nil)) (.mk (hj.sm (by omega)) (x4.sm (by decide)))) ?_)
      refine sds_nil ⟨rfl, done ++ [⟨b, some x.1, j⟩], x.1, j + x.2, _, _, ?_, rfl, by rw [List.length_append, hd] <;> rfl, ?_, (hj.add x4).mono (by omega)⟩
      · rw [List.map_append] <;> rfl
      · rw [List.append_assoc]
        exact he
    · obtain ⟨rfl, done, b, j, a4, a5, rfl, rfl, hd, he, hj⟩ := hP
      rw [List.drop_length] at he
      refine sds_cons (sd_app (D1 := []) 1 (pd_tup (pds_cons (pd_var 2) (pds_cons pd_non (pds_cons (pd_var 3) pds_nil)))) (by rw [List.length_map]; omega) ?_)
      refine sds_cons (sd_retV (ds := (stretL 0 0 c.sets).map dStr) 1 rfl (hp := ?_))
      rw [← he, List.map_append]
      exact List.mem_cons_self ..
inductive R_moments_of : List PyData → Res → Prop
  | mk {c : Clk} {hour : Rat} {e : Option Rat} (h : ClkOk c) (hh : Sk 60 hour) (he : Sk 60 (e.getD 0)) : R_moments_of [dClk c, dP hour, dO e] (.lst ((momsD c hour (e.getD 0)).map dP))
theorem sc_moments_of : FnScope ["clock", "hour", "error", "own", "rate", "found", "begin", "end", "jumps", "rest", "moment"] ["clock", "hour", "error"] (defScope s_moments_of) := ⟨rfl, rfl, rfl, by decide +kernel, rfl, by decide +kernel, by decide +kernel⟩
theorem rate_pos {c : Clk} (h : ClkOk c) : 0 < (rateD c).num := by
  have : 0 < rateD c := by
    have := h.lo
    unfold rateD
    grind
  have h0 := Rat.num_nonneg.mpr (Rat.le_of_lt this)
  rcases Int.lt_or_eq_of_le h0 with q | q
  · exact q
  · exfalso
    have e := Rat.num_divInt_den (rateD c)
    rw [← q, Rat.zero_divInt] at e
    rw [← e] at this
    exact absurd this (by decide)
theorem sk_pr {k : Nat} {q : Rat} (h : Sk k q) : q.num.natAbs < 2 ^ k ∧ ((q.den : Int)).natAbs < 2 ^ k := ⟨h.1, by rw [Int.natAbs_natCast]; exact h.2⟩
set_option maxHeartbeats 1000000 in
set_option exponentiation.threshold 10000 in
theorem ok_moments_of (T : Tx K mg) {ds : List V} {fd : FuncData} (F : FunD K d_moments_of.name d_moments_of.qual (defArgs d_moments_of.st) (defBody d_moments_of.st) (defScope d_moments_of.st) ds [] d_moments_of.f fd) : FnOk P w K mg base CX0 7 d_moments_of.f fd ["clock", "hour", "error"] (spD K R_moments_of) := by
  refine fn_body F sc_moments_of (by rintro _ _ ⟨⟩; rfl) fun cdv A outer s H E hr ds r hR => ?_
  cases hR with
  | @mk c hour e h hh he =>
    have hl := h.len
    have sr : Sk 121 (rateD c) := (sk_24.add h.sg)
    have hsl := stretL_len c.sets 0 0
    refine sds_cons (sd_expr (pd_call (fn_need_clock T) hr (by decide) (pds_cons (pd_var 0) pds_nil) (.mk h)) ?_)
    refine sds_cons (sd_if (pq_not (pq_val (pd_call (fn_is_part T) hr (by decide) (pds_cons (pd_var 1) pds_nil) .mk))) (fun h1 => by cases h1) (fun _ => sds_nil ?_))
    refine sds_cons (sd_asg 3 sc_moments_of.nd (pd_call (fn_own_error T) hr (by decide) (pds_cons (pd_var 2) pds_nil) .mk) ?_)
    refine sds_cons (sd_asg (d := dP (rateD c)) 4 sc_moments_of.nd (pd_call (fn_plus T) hr (by decide) (pds_cons (k_HOURS T) (pds_cons (pd_ix (pd_var 0) pd_int) pds_nil)) (.mk (sk_24.sm (by decide)) (h.sg.sm (by decide)))) ?_)
    refine sds_cons (sd_asgL 5 sc_moments_of.nd (pl_lst pds_nil) fun l5 => ?_)
    refine sds_cons (sd_forL (is := [6, 7, 8]) dStr (stretL 0 0 c.sets) (fun i M G D => M = [l5] ∧ D = [(l5, (((stretL 0 0 c.sets).take i).flatMap (momAt c hour (e.getD 0))).map dP)] ∧ ∃ a6 a7 a8 a9 a10, G = [.dat (dClk c), .dat (dP hour), .dat (dO e), .dat (dP (e.getD 0)), .dat (dP (rateD c)), .ref l5, a6, a7, a8, a9, a10]) (pl_call (fn_stretches_of T) hr (by decide) (pds_cons (pd_var 0) pds_nil) (.mk h)) ?_ (fun l i x M G D hx hP => ?_) (fun M G D hP => ?_))
    · exact ⟨rfl, rfl, _, _, _, _, _, rfl⟩
    · obtain ⟨rfl, rfl, a6, a7, a8, a9, a10, rfl⟩ := hP
      obtain ⟨x1, x2, x3⟩ := stretL_sk (fun s hs => (h.ok s hs).2.2) (sk_zero (k := 60) (by decide)) (sk_zero (k := 1) (by decide)) x (List.mem_of_getElem? hx)
      have x3 : Sk 367 x.j := x3.mono (by omega)
      have sp := he.add x3
      have sq : Sk 500 (hour - (e.getD 0 + x.j)) := (hh.sub sp).mono (by decide)
      have srm := sk_pr sr
      have sqm := sk_pr sq
      have bpos : 0 < ((hour - (e.getD 0 + x.j)).den : Int) * (rateD c).num := Int.mul_pos (Int.natCast_pos.mpr (Rat.den_pos _)) (rate_pos h)
      have blt : (((hour - (e.getD 0 + x.j)).den : Int) * (rateD c).num).natAbs < 2 ^ 700 := by
        rw [Int.natAbs_mul]
        exact Nat.lt_of_lt_of_le (lt_mul2 sqm.2 srm.1) (Nat.pow_le_pow_right (by decide) (by decide))
      have tlt : (((hour - (e.getD 0 + x.j)).num : Int) * (rateD c).den).natAbs < 2 ^ 700 := by
        rw [Int.natAbs_mul]
        exact Nat.lt_of_lt_of_le (lt_mul2 sqm.1 srm.2) (Nat.pow_le_pow_right (by decide) (by decide))
      have sm_ : Sm (momQ c hour (e.getD 0) x) := (sk_divInt bpos tlt blt).sm (by decide)
      have hz : ((((stretL 0 0 c.sets).take i).flatMap (momAt c hour (e.getD 0))).map dP).length ≤ 1000 := by
        rw [List.length_map]
        have h1 := flat_len momAt_len ((stretL 0 0 c.sets).take i) (f := momAt c hour (e.getD 0))
        have h2 : ((stretL 0 0 c.sets).take i).length ≤ 7 := by rw [List.length_take]; omega
        omega
      rw [flat_take hx, List.map_append]
      refine ⟨_, (gd_tup (gds_cons (gd_name 6 sc_moments_of.nd) (gds_cons (gd_name 7 sc_moments_of.nd) (gds_cons (gd_name 8 sc_moments_of.nd) gds_nil)))), ?_⟩
      refine sds_cons (sd_asg 9 sc_moments_of.nd (pd_call (fn_minus T) hr (by decide) (pds_cons (pd_var 1) (pds_cons (pd_call (fn_plus T) hr (by decide) (pds_cons (pd_var 3) (pds_cons (pd_var 8) pds_nil)) (.mk (he.sm (by decide)) (x3.sm (by decide)))) pds_nil)) (.mk (hh.sm (by decide)) (sp.sm (by decide)))) ?_)
      refine sds_cons (sd_asg (d := dP (momQ c hour (e.getD 0) x)) 10 sc_moments_of.nd (pd_call (fn_lowest T) hr (by decide) (pds_cons (pd_mul (pd_ix (pd_var 9) pd_int) (pd_ix (pd_var 4) pd_int) (sm_mul sqm.1 srm.2)) (pds_cons (pd_mul (pd_ix (pd_var 9) pd_int) (pd_ix (pd_var 4) pd_int) (sm_mul sqm.2 srm.1)) pds_nil)) (.mk bpos (Nat.lt_of_lt_of_le blt (Nat.pow_le_pow_right (by decide) (by decide))))) ?_)
      have hm := momAt.eq_1 c hour (e.getD 0) x
      generalize momQ c hour (e.getD 0) x = mq at sm_ hm
      obtain ⟨xb, xe, xj⟩ := x
      dsimp only at x1 x2 hm
      rw [hm]
      cases xe with
      | none =>
        refine sds_cons (sd_if (wq_q (wq_and (pq_not (pq_val (pd_call (fn_below T) hr (by decide) (pds_cons (pd_var 10) (pds_cons (pd_var 6) pds_nil)) (.mk sm_ (x1.sm (by decide)))))) fun h2 => (wq_and1 (wq_q (wq_or (q := true) (pq_cmp (cd_isN (pd_var 7))) fun h3 => by cases h3))))) (fun h4 => ?_) (fun h4 => ?_))
        · have h4 : momT mq xb none = true := h4
          rw [if_pos h4]
          exact sds_cons (sd_app (D1 := [(l, _)]) 5 (pd_var 10) hz (sds_nil (sds_nil ⟨_, rfl, rfl, rfl, _, _, _, _, _, rfl⟩)))
        · have h4 : momT mq xb none = false := h4
          rw [if_neg (fun z => absurd (h4.symm.trans z) Bool.false_ne_true), List.map_nil, List.append_nil]
          exact sds_nil (sds_nil ⟨_, rfl, rfl, rfl, _, _, _, _, _, rfl⟩)
      | some q =>
        have sq2 := x2 q rfl
        refine sds_cons (sd_if (wq_q (wq_and (pq_not (pq_val (pd_call (fn_below T) hr (by decide) (pds_cons (pd_var 10) (pds_cons (pd_var 6) pds_nil)) (.mk sm_ (x1.sm (by decide)))))) fun h2 => (wq_and1 (wq_q (wq_or (pq_cmp (cd_isN (pd_var 7))) fun h3 => (wq_or1 (pq_val (pd_call (fn_below T) hr (by decide) (pds_cons (pd_var 10) (pds_cons (pd_var 7) pds_nil)) (.mk sm_ (sq2.sm (by decide))))))))))) (fun h4 => ?_) (fun h4 => ?_))
        · have h4 : momT mq xb (some q) = true := h4
          rw [if_pos h4]
          exact sds_cons (sd_app (D1 := [(l, _)]) 5 (pd_var 10) hz (sds_nil (sds_nil ⟨_, rfl, rfl, rfl, _, _, _, _, _, rfl⟩)))
        · have h4 : momT mq xb (some q) = false := h4
          rw [if_neg (fun z => absurd (h4.symm.trans z) Bool.false_ne_true), List.map_nil, List.append_nil]
          exact sds_nil (sds_nil ⟨_, rfl, rfl, rfl, _, _, _, _, _, rfl⟩)
    · obtain ⟨rfl, rfl, a6, a7, a8, a9, a10, rfl⟩ := hP
      rw [List.take_length]
      exact sds_cons (sd_retV (ds := (momsD c hour (e.getD 0)).map dP) 5 rfl (hp := List.mem_cons_self ..))
theorem fn_moments_of (T : Tx K mg) : Fn P w K mg base 7 "moments_of" ["clock", "hour", "error"] [] (spD K R_moments_of) := Fn.mkD (vs := [.non]) 3 1 T m_moments_of rfl (List.mem_of_getElem? (i := 2) rfl) (by simp) rfl g_moments_of (fun _ _ _ _ _ _ _ us its h1 h2 => match us, its, h1, h2 with | [_, _, _], [_], _, _ => ⟨_, rfl, rfl⟩) fun fd F => ok_moments_of T F
theorem fk_moments_of (T : Tx K mg) : FnK P w K mg base 7 "moments_of" ["clock", "hour", "error"] ["error", "hour", "clock"] (fun ds => ds.reverse ++ []) (spD K R_moments_of) := FnK.mkD (vs := [.non]) [] 1 T m_moments_of rfl (List.mem_of_getElem? (i := 2) rfl) (by simp) g_moments_of (fun _ _ _ _ _ _ _ us its ws h1 h2 h3 => match us, its, ws, h1, h2, h3 with | [], [_], [_, _, _], _, _, _ => ⟨_, rfl, rfl⟩) (fun H => rfl) fun fd F => ok_moments_of T F
theorem fk0_moments_of (T : Tx K mg) : FnK P w K mg base 7 "moments_of" ["clock", "hour", "error"] ["hour", "clock"] (fun ds => ds.reverse ++ [.none]) (spD K R_moments_of) := FnK.mkD (vs := [.non]) [.none] 0 T m_moments_of rfl (List.mem_of_getElem? (i := 2) rfl) (by simp) g_moments_of (fun _ _ _ _ _ _ _ us its ws h1 h2 h3 => match us, its, ws, h1, h2, h3 with | [], [_], [_, _], _, _, _ => ⟨_, rfl, rfl⟩) (fun H => Fts.one rfl) fun fd F => ok_moments_of T F
/-! ### changes_of, turned_back, skipped -/
inductive R_changes_of : List PyData → Res → Prop
  | mk {c : Clk} {e : Rat} (h : ClkOk c) (he : Sk 60 e) : R_changes_of [dClk c, dP e] (.lst ((chgs c e 0 c.sets).map dSet))
theorem sc_changes_of : FnScope ["clock", "error", "found", "jumps", "when", "jump", "ahead"] ["clock", "error"] (defScope s_changes_of) := ⟨rfl, rfl, rfl, by decide +kernel, rfl, by decide +kernel, by decide +kernel⟩
theorem chgs_len {c : Clk} {e : Rat} : ∀ (sets : List (Rat × Rat)) (j : Rat), (chgs c e j sets).length = sets.length
  | [], _ => rfl
  | s :: r, j => congrArg Nat.succ (chgs_len r _)
theorem chg_sk {c : Clk} {e j : Rat} {s : Rat × Rat} {k : Nat} (h : ClkOk c) (he : Sk 60 e) (h1 : Sk 60 s.1) (h2 : Sk 60 s.2) (hj : Sk k j) (hk : k ≤ 400) : Sk 243 (rateD c * s.1 + e) ∧ Sk 700 (rateD c * s.1 + e + j) ∧ Sk 800 (rateD c * s.1 + e + j + s.2) := by
  have sr : Sk 121 (rateD c) := (sk_24.add h.sg)
  have a1 : Sk 243 (rateD c * s.1 + e) := ((sr.mul h1).add he).mono (by decide)
  have a2 : Sk 700 (rateD c * s.1 + e + j) := (a1.add hj).mono (by omega)
  exact ⟨a1, a2, (a2.add h2).mono (by decide)⟩
theorem fn_changes_of (T : Tx K mg) : Fn P w K mg base 4 "changes_of" ["clock", "error"] [] (spD K R_changes_of) := by
  refine Fn.mk_ T m_changes_of rfl g_changes_of (fun _ _ _ _ _ _ us hl => match us, hl with | [_, _], _ => rfl) fun fd F => fn_body F sc_changes_of (by rintro _ _ ⟨⟩; rfl) fun cdv A outer s H E hr ds r hR => ?_
  cases hR with
  | @mk c e h he =>
    have hl := h.len
    have sr : Sk 121 (rateD c) := (sk_24.add h.sg)
    refine sds_cons (sd_asgL 2 sc_changes_of.nd (pl_lst pds_nil) fun l2 => ?_)
    refine sds_cons (sd_asg 3 sc_changes_of.nd (k_NOUGHT T) ?_)
    refine sds_cons (sd_for (is := [4, 5]) dSet c.sets (fun i M G D => M = [l2] ∧ ∃ (done : List (Rat × Rat)) (j : Rat) (a4 a5 a6 : Slot), D = [(l2, done.map dSet)] ∧ G = [.dat (dClk c), .dat (dP e), .ref l2, .dat (dP j), a4, a5, a6] ∧ done.length = i ∧ done ++ chgs c e j (c.sets.drop i) = chgs c e 0 c.sets ∧ Sk (1 + 61 * i) j) (id_tup (pd_ix (pd_var 0) pd_int)) ?_ (fun i x M G D hx hP => ?_) (fun M G D hP => ?_))
    · exact ⟨rfl, [], 0, _, _, _, rfl, rfl, rfl, rfl, sk_zero (by decide)⟩
    · obtain ⟨rfl, done, j, a4, a5, a6, rfl, rfl, hd, hq, hj⟩ := hP
      obtain ⟨x1, x2, x3, x4⟩ := h.ok x (List.mem_of_getElem? hx)
      have hi : i < 6 := by have := (List.getElem?_eq_some_iff.mp hx).1; omega
      obtain ⟨b1, b2, b3⟩ := chg_sk h he x3 x4 hj (by omega)
      rw [drop_get hx] at hq
      refine ⟨_, (gd_tup (gds_cons (gd_name 4 sc_changes_of.nd) (gds_cons (gd_name 5 sc_changes_of.nd) gds_nil))), ?_⟩
      refine sds_cons (sd_asg (d := dP (rateD c * x.1 + e + j)) 6 sc_changes_of.nd (pd_call (fn_plus T) hr (by decide) (pds_cons (pd_call (fn_plus T) hr (by decide) (pds_cons (pd_call (fn_product T) hr (by decide) (pds_cons (pd_call (fn_plus T) hr (by decide) (pds_cons (k_HOURS T) (pds_cons (pd_ix (pd_var 0) pd_int) pds_nil)) (.mk (sk_24.sm (by decide)) (h.sg.sm (by decide)))) (pds_cons (pd_var 4) pds_nil)) (.mk (sr.sm (by decide)) (x3.sm (by decide)))) (pds_cons (pd_var 1) pds_nil)) (.mk ((sr.mul x3).sm (by decide)) (he.sm (by decide)))) (pds_cons (pd_var 3) pds_nil)) (.mk (b1.sm (by decide)) (hj.sm (by omega)))) ?_)
      refine sds_cons (sd_app (D1 := []) 2 (pd_tup (pds_cons (pd_var 6) (pds_cons (pd_call (fn_plus T) hr (by decide) (pds_cons (pd_var 6) (pds_cons (pd_var 5) pds_nil)) (.mk (b2.sm (by decide)) (x4.sm (by decide)))) pds_nil))) (by rw [List.length_map]; omega) ?_)
      refine sds_cons (sd_asg 3 sc_changes_of.nd (pd_call (fn_plus T) hr (by decide) (pds_cons (pd_var 3) (pds_cons (pd_var 5) pds_nil)) (.mk (hj.sm (by omega)) (x4.sm (by decide)))) ?_)
      refine sds_nil ⟨rfl, done ++ [(rateD c * x.1 + e + j, rateD c * x.1 + e + j + x.2)], j + x.2, _, _, _, ?_, rfl, by rw [List.length_append, hd] <;> rfl, ?_, (hj.add x4).mono (by omega)⟩
      · rw [List.map_append] <;> rfl
      · rw [List.append_assoc]
        exact hq
    · obtain ⟨rfl, done, j, a4, a5, a6, rfl, rfl, hd, hq, hj⟩ := hP
      rw [List.drop_length] at hq
      have hq' : done = chgs c e 0 c.sets := by rw [← hq]; exact (List.append_nil _).symm
      refine sds_cons (sd_retV (ds := (chgs c e 0 c.sets).map dSet) 2 rfl (hp := ?_))
      rw [← hq']
      exact List.mem_cons_self ..
theorem chgs_sk {c : Clk} {e : Rat} (h : ClkOk c) (he : Sk 60 e) : ∀ {sets : List (Rat × Rat)} {j : Rat} {k : Nat}, (∀ s ∈ sets, Sk 60 s.1 ∧ Sk 60 s.2) → Sk k j → k + 61 * sets.length ≤ 400 → ∀ x ∈ chgs c e j sets, Sm x.1 ∧ Sm x.2
  | [], _, _, _, _, _, x, hx => by cases hx
  | s :: r, j, k, hs, hj, hk, x, hx => by
    have h0 := hs s (List.mem_cons_self ..)
    rw [List.length_cons] at hk
    rcases List.mem_cons.mp hx with rfl | hx
    · obtain ⟨b1, b2, b3⟩ := chg_sk h he h0.1 h0.2 hj (by omega)
      exact ⟨b2.sm (by decide), b3.sm (by decide)⟩
    · exact chgs_sk h he (sets := r) (k := k + 61) (fun q hq => hs q (List.mem_cons_of_mem _ hq)) ((hj.add h0.2).mono (by omega)) (by omega) x hx
def backD (c : Clk) (e : Rat) : List PyData := ((chgs c e 0 c.sets).filter fun x => decide (x.2 < x.1)).map fun x => dSet (x.2, x.1)
def skipD (c : Clk) (e : Rat) : List PyData := ((chgs c e 0 c.sets).filter fun x => decide (x.1 < x.2)).map dSet
inductive R_turned_back : List PyData → Res → Prop
  | mk {c : Clk} {e : Option Rat} (h : ClkOk c) (he : Sk 60 (e.getD 0)) : R_turned_back [dClk c, dO e] (.lst (backD c (e.getD 0)))
theorem sc_turned_back : FnScope ["clock", "error", "own", "ahead", "behind"] ["clock", "error"] (defScope s_turned_back) := ⟨rfl, rfl, rfl, by decide +kernel, rfl, by decide +kernel, by decide +kernel⟩
theorem ok_turned_back (T : Tx K mg) {ds : List V} {fd : FuncData} (F : FunD K d_turned_back.name d_turned_back.qual (defArgs d_turned_back.st) (defBody d_turned_back.st) (defScope d_turned_back.st) ds [] d_turned_back.f fd) : FnOk P w K mg base CX0 7 d_turned_back.f fd ["clock", "error"] (spD K R_turned_back) := by
  refine fn_body F sc_turned_back (by rintro _ _ ⟨⟩; rfl) fun cdv A outer s H E hr ds r hR => ?_
  cases hR with
  | @mk c e h he =>
    have hl := h.len
    have hcl := chgs_len (c := c) (e := e.getD 0) c.sets 0
    have hsk := chgs_sk h he (sets := c.sets) (fun s hs => (h.ok s hs).2.2) (sk_zero (k := 1) (by decide)) (by omega)
    refine sds_cons (sd_expr (pd_call (fn_need_clock T) hr (by decide) (pds_cons (pd_var 0) pds_nil) (.mk h)) ?_)
    refine sds_cons (sd_asg 2 sc_turned_back.nd (pd_call (fn_own_error T) hr (by decide) (pds_cons (pd_var 1) pds_nil) .mk) ?_)
    exact sds_cons (sd_retL (pl_lc (own := [("ahead", 3), ("behind", 4)]) (lc_ofL (is := [3, 4]) dSet (chgs c (e.getD 0) 0 c.sets) (fun x => decide (x.2 < x.1)) (fun x => dSet (x.2, x.1)) (fun x hx => ⟨_, (fun _ _ _ _ _ => (gd_tup (gds_cons (gd_name 3 sc_turned_back.nd) (gds_cons (gd_name 4 sc_turned_back.nd) gds_nil)))), (fun _ _ _ _ _ => qs_one (pq_val (pd_call (fn_below T) hr (by decide) (pds_cons (pd_var 4) (pds_cons (pd_var 3) pds_nil)) (.mk (hsk x hx).2 (hsk x hx).1)))), fun _ _ _ _ _ _ => (pd_tup (pds_cons (pd_var 4) (pds_cons (pd_var 3) pds_nil)))⟩) (by decide) (by omega) (pl_r (pl_call (fn_changes_of T) hr (by decide) (pds_cons (pd_var 0) (pds_cons (pd_var 2) pds_nil)) (.mk h he)))) sc_turned_back.nd (blkOk_by rfl)) rfl)
theorem fn_turned_back (T : Tx K mg) : Fn P w K mg base 7 "turned_back" ["clock", "error"] [] (spD K R_turned_back) := Fn.mkD (vs := [.non]) 2 1 T m_turned_back rfl (List.mem_of_getElem? (i := 3) rfl) (by simp) rfl g_turned_back (fun _ _ _ _ _ _ _ us its h1 h2 => match us, its, h1, h2 with | [_, _], [_], _, _ => ⟨_, rfl, rfl⟩) fun fd F => ok_turned_back T F
theorem fn0_turned_back (T : Tx K mg) : Fn P w K mg base 7 "turned_back" ["clock", "error"] [.non] (spD K R_turned_back) := Fn.mkD (vs := [.non]) 1 0 T m_turned_back rfl (List.mem_of_getElem? (i := 3) rfl) (by simp) rfl g_turned_back (fun _ _ _ _ _ _ _ us its h1 h2 => match us, its, h1, h2 with | [_], [_], _, _ => ⟨_, rfl, rfl⟩) fun fd F => ok_turned_back T F
theorem fk_turned_back (T : Tx K mg) : FnK P w K mg base 7 "turned_back" ["clock", "error"] ["error", "clock"] (fun ds => ds.reverse ++ []) (spD K R_turned_back) := FnK.mkD (vs := [.non]) [] 1 T m_turned_back rfl (List.mem_of_getElem? (i := 3) rfl) (by simp) g_turned_back (fun _ _ _ _ _ _ _ us its ws h1 h2 h3 => match us, its, ws, h1, h2, h3 with | [], [_], [_, _], _, _, _ => ⟨_, rfl, rfl⟩) (fun H => rfl) fun fd F => ok_turned_back T F
theorem fk0_turned_back (T : Tx K mg) : FnK P w K mg base 7 "turned_back" ["clock", "error"] ["clock"] (fun ds => ds.reverse ++ [.none]) (spD K R_turned_back) := FnK.mkD (vs := [.non]) [.none] 0 T m_turned_back rfl (List.mem_of_getElem? (i := 3) rfl) (by simp) g_turned_back (fun _ _ _ _ _ _ _ us its ws h1 h2 h3 => match us, its, ws, h1, h2, h3 with | [], [_], [_], _, _, _ => ⟨_, rfl, rfl⟩) (fun H => Fts.one rfl) fun fd F => ok_turned_back T F
inductive R_skipped : List PyData → Res → Prop
  | mk {c : Clk} {e : Option Rat} (h : ClkOk c) (he : Sk 60 (e.getD 0)) : R_skipped [dClk c, dO e] (.lst (skipD c (e.getD 0)))
theorem sc_skipped : FnScope ["clock", "error", "own", "ahead", "behind"] ["clock", "error"] (defScope s_skipped) := ⟨rfl, rfl, rfl, by decide +kernel, rfl, by decide +kernel, by decide +kernel⟩
theorem ok_skipped (T : Tx K mg) {ds : List V} {fd : FuncData} (F : FunD K d_skipped.name d_skipped.qual (defArgs d_skipped.st) (defBody d_skipped.st) (defScope d_skipped.st) ds [] d_skipped.f fd) : FnOk P w K mg base CX0 7 d_skipped.f fd ["clock", "error"] (spD K R_skipped) := by
  refine fn_body F sc_skipped (by rintro _ _ ⟨⟩; rfl) fun cdv A outer s H E hr ds r hR => ?_
  cases hR with
  | @mk c e h he =>
    have hl := h.len
    have hcl := chgs_len (c := c) (e := e.getD 0) c.sets 0
    have hsk := chgs_sk h he (sets := c.sets) (fun s hs => (h.ok s hs).2.2) (sk_zero (k := 1) (by decide)) (by omega)
    refine sds_cons (sd_expr (pd_call (fn_need_clock T) hr (by decide) (pds_cons (pd_var 0) pds_nil) (.mk h)) ?_)
    refine sds_cons (sd_asg 2 sc_skipped.nd (pd_call (fn_own_error T) hr (by decide) (pds_cons (pd_var 1) pds_nil) .mk) ?_)
    exact sds_cons (sd_retL (pl_lc (own := [("ahead", 3), ("behind", 4)]) (lc_ofL (is := [3, 4]) dSet (chgs c (e.getD 0) 0 c.sets) (fun x => decide (x.1 < x.2)) dSet (fun x hx => ⟨_, (fun _ _ _ _ _ => (gd_tup (gds_cons (gd_name 3 sc_skipped.nd) (gds_cons (gd_name 4 sc_skipped.nd) gds_nil)))), (fun _ _ _ _ _ => qs_one (pq_val (pd_call (fn_below T) hr (by decide) (pds_cons (pd_var 3) (pds_cons (pd_var 4) pds_nil)) (.mk (hsk x hx).1 (hsk x hx).2)))), fun _ _ _ _ _ _ => (pd_tup (pds_cons (pd_var 3) (pds_cons (pd_var 4) pds_nil)))⟩) (by decide) (by omega) (pl_r (pl_call (fn_changes_of T) hr (by decide) (pds_cons (pd_var 0) (pds_cons (pd_var 2) pds_nil)) (.mk h he)))) sc_skipped.nd (blkOk_by rfl)) rfl)
theorem fn_skipped (T : Tx K mg) : Fn P w K mg base 7 "skipped" ["clock", "error"] [] (spD K R_skipped) := Fn.mkD (vs := [.non]) 2 1 T m_skipped rfl (List.mem_of_getElem? (i := 4) rfl) (by simp) rfl g_skipped (fun _ _ _ _ _ _ _ us its h1 h2 => match us, its, h1, h2 with | [_, _], [_], _, _ => ⟨_, rfl, rfl⟩) fun fd F => ok_skipped T F
theorem fk_skipped (T : Tx K mg) : FnK P w K mg base 7 "skipped" ["clock", "error"] ["error", "clock"] (fun ds => ds.reverse ++ []) (spD K R_skipped) := FnK.mkD (vs := [.non]) [] 1 T m_skipped rfl (List.mem_of_getElem? (i := 4) rfl) (by simp) g_skipped (fun _ _ _ _ _ _ _ us its ws h1 h2 h3 => match us, its, ws, h1, h2, h3 with | [], [_], [_, _], _, _, _ => ⟨_, rfl, rfl⟩) (fun H => rfl) fun fd F => ok_skipped T F
theorem fk0_skipped (T : Tx K mg) : FnK P w K mg base 7 "skipped" ["clock", "error"] ["clock"] (fun ds => ds.reverse ++ [.none]) (spD K R_skipped) := FnK.mkD (vs := [.non]) [.none] 0 T m_skipped rfl (List.mem_of_getElem? (i := 4) rfl) (by simp) g_skipped (fun _ _ _ _ _ _ _ us its ws h1 h2 h3 => match us, its, ws, h1, h2, h3 with | [], [_], [_], _, _, _ => ⟨_, rfl, rfl⟩) (fun H => Fts.one rfl) fun fd F => ok_skipped T F
end
end Gk
end

section
set_option linter.all false
set_option maxRecDepth 100000
namespace Gk
open PySem PySem.Spec PyProof.Rows L2 Evl
theorem rngN (n : Nat) : rngD 0 n = (List.range n).map fun i : Nat => .int (i : Int) := by
  unfold rngD
  congr 1
  funext i
  rw [Int.zero_add]
section
variable {X : Cx} {G : List Slot} {D : Lists} {a b : Expr}
theorem cd_notInS {s : Bool} (ha : PD X G D a (sideD s)) (hb : PD X G D b (.tuple [.str "high", .str "low"])) : CD X G D .NotIn a b false :=
  ⟨_, _, _, op_notIn_seq, ha, hb, fun t H Q E r => ⟨E, fun v H1 e1 f1 => ⟨E.mono e1, fun u H2 e2 f2 => by
    obtain ⟨z, xs, rfl, q, f⟩ := f2
    obtain ⟨x1, r1, rfl, g1, x2, r2, rfl, g2, e3⟩ := f
    have h1 : x1 = .str "high" := g1
    have h2 : x2 = .str "low" := g2
    have h3 : r2 = [] := e3
    subst h1 h2 h3
    cases s with
    | true =>
      have ev : v = .str "low" := f1
      subst ev
      exact ⟨z, _, rfl, .inr q, rfl, rfl, r H2 (e1.trans e2)⟩
    | false =>
      have ev : v = .str "high" := f1
      subst ev
      exact ⟨z, _, rfl, .inr q, rfl, rfl, r H2 (e1.trans e2)⟩⟩⟩⟩
end
theorem Tels.sub {D M : Nat} {ts us : List Tel} (h : Tels D M ts) (hl : us.length ≤ 16) (hs : ∀ t ∈ us, t ∈ ts) : Tels D M us := ⟨hl, fun t ht => h.ok t (hs t ht)⟩
def woT (ts : List Tel) (n : Nat) : List Tel := ts.take n ++ ts.drop (n + 1)
theorem wo_ok {D M : Nat} {ts : List Tel} (h : Tels D M ts) (n : Nat) : Tels D M (woT ts n) := h.sub (by
  unfold woT
  rw [List.length_append, List.length_take, List.length_drop]
  have := h.len
  omega) fun t ht => by
  rcases List.mem_append.mp ht with q | q
  · exact List.mem_of_mem_take q
  · exact List.mem_of_mem_drop q
abbrev strD (ts : List Tel) (c : Nat) : PyData := .tuple [dO (lowD ts c 0), dO (farD ts c 0)]
theorem sh_str2 {ts : List Tel} {c n : Nat} : sh (n + 2) (strD ts c) = true := sh_two sh_dO sh_dO
def widthD (ts : List Tel) (c : Nat) : Option Rat := match lowD ts c 0, farD ts c 0 with
  | some l, some h => some (h - l)
  | _, _ => none
theorem far_gr {D M : Nat} {ts : List Tel} (h : Tels D M ts) {c o : Nat} (ho : o < 6) {q : Rat} (e : farD ts c o = some q) : Gr D (192 * M) q := by
  obtain ⟨ws, g⟩ := dist_some e
  have := (Bd.bf (b := o) ho (stepsOk h) 6).ok c q ws g
  exact this.1.mono (Nat.mul_le_mul (by have := steps_le h; omega) (Nat.le_refl _))
theorem low_gr2 {D M : Nat} {ts : List Tel} (h : Tels D M ts) {c : Nat} (hc : c < 6) {q : Rat} (e : lowD ts c 0 = some q) : Gr D (192 * M) q := by
  unfold lowD negO at e
  obtain ⟨x, hx, rfl⟩ := Option.map_eq_some_iff.mp e
  exact (far_gr h hc hx).neg
theorem width_gr {D M : Nat} {ts : List Tel} (h : Tels D M ts) {c : Nat} (hc : c < 6) {q : Rat} (e : widthD ts c = some q) : Gr D (384 * M) q := by
  unfold widthD at e
  cases hl : lowD ts c 0 with
  | none => rw [hl] at e; cases e
  | some l =>
    cases hh : farD ts c 0 with
    | none => rw [hl, hh] at e; cases e
    | some x =>
      rw [hl, hh] at e
      have e' : x - l = q := Option.some.inj e
      rw [← e']
      exact ((far_gr h (by decide) hh).sub (low_gr2 h hc hl)).mono (by omega)
section
variable {P : Program} {w : World} {K : PySem.W.Frag} {mg : Str → Option Value} {base : Heap}
inductive R_are_watched : List PyData → Res → Prop
  | mk {c : Nat} (h : 1 ≤ c) (h6 : c < 6) : R_are_watched [.tuple [.int c]] (.dat (.bool true))
theorem sc_are_watched : FnScope ["thing", "one", "later"] ["thing"] (defScope s_are_watched) := ⟨rfl, rfl, rfl, by decide +kernel, rfl, by decide +kernel, by decide +kernel⟩
theorem fn_are_watched (T : Tx K mg) : Fn P w K mg base 3 "are_watched" ["thing"] [] (spD K R_are_watched) := by
  refine Fn.mk_ T m_are_watched rfl g_are_watched (fun _ _ _ _ _ _ us hl => match us, hl with | [_], _ => rfl) fun fd F => fn_body F sc_are_watched (by rintro _ _ ⟨⟩; rfl) fun cdv A outer s H E hr ds r hR => ?_
  cases hR with
  | @mk c h h6 =>
    have hz : pairs [PyData.int (c : Nat)] (cutD [PyData.int (c : Nat)] (some 1) none) = ([] : List (Int × Int)).map fun p => .tuple [.int p.1, .int p.2] := rfl
    refine sds_cons (sd_if (wq_q (wq_or (pq_not (pq_val (pd_isT T.toTxt (pd_var 0)))) fun h1 => (wq_or (p := false) (pq_cmp (cd_eqV rfl hr (pd_var 0) (pd_tup pds_nil))) fun h2 => (wq_or1 (pq_not (pq_val (pd_all rfl (pl_r (pl_lc (own := [("one", 1)]) (lc_bool (fun n : Nat => .int (n : Int)) [c] (fun _ => true) (fun x hx => ⟨_, (fun _ _ _ _ _ => (gd_name 1 sc_are_watched.nd)), (fun _ _ _ _ _ => qs_nil), fun _ _ _ _ _ _ => (pd_call (fn_is_from_to T) hr (by decide) (pds_cons (pd_var 1) (pds_cons pd_int (pds_cons (pd_sub (k_CLOCKS T) pd_int) pds_nil))) (by rw [List.mem_singleton.mp hx]; exact .rng (by omega) (by omega)))⟩) (by simp) (id_tup (pd_var 0))) sc_are_watched.nd (blkOk_by rfl))) T.all))))))) (fun h3 => by cases h3) (fun h3 => sds_nil ?_))
    exact sds_cons (sd_ret (pd_all (bs := []) rfl (pl_r (pl_lc (own := [("one", 1), ("later", 2)]) (lc_bool (is := [1, 2]) (fun p : Int × Int => .tuple [.int p.1, .int p.2]) ([] : List (Int × Int)) (fun p => decide (p.1 < p.2)) (fun x hx => by cases hx) (by decide) (by rw [← hz]; exact id_zip (pd_var 0) (pd_slice (pd_var 0) (qo_some pd_int) qo_none) T.zip)) sc_are_watched.nd (blkOk_by rfl))) T.all) rfl)
inductive R_need_watched : List PyData → Res → Prop
  | mk {c : Nat} (h : 1 ≤ c) (h6 : c < 6) : R_need_watched [.tuple [.int c]] (.dat .none)
theorem sc_need_watched : FnScope ["clocks"] ["clocks"] (defScope s_need_watched) := ⟨rfl, rfl, rfl, by decide +kernel, rfl, by decide +kernel, by decide +kernel⟩
theorem fn_need_watched (T : Tx K mg) : Fn P w K mg base 4 "need_watched" ["clocks"] [] (spD K R_need_watched) := by
  refine Fn.mk_ T m_need_watched rfl g_need_watched (fun _ _ _ _ _ _ us hl => match us, hl with | [_], _ => rfl) fun fd F => fn_body F sc_need_watched (by rintro _ _ ⟨⟩; rfl) fun cdv A outer s H E hr ds r hR => ?_
  cases hR with
  | mk h h6 => exact sds_cons (sd_if (pq_not (pq_val (pd_call (fn_are_watched T) hr (by decide) (pds_cons (pd_var 0) pds_nil) (.mk h h6)))) (fun h1 => by cases h1) (fun _ => sds_nil (sds_nil rfl)))
inductive R_width_of : List PyData → Res → Prop
  | mk {D M : Nat} {ts : List Tel} {c : Nat} (z : Sz D M) (h : Tels D M ts) (hc : c < 6) : R_width_of [dTels ts, .int c] (.dat (dO (widthD ts c)))
theorem sc_width_of : FnScope ["tellings", "clock", "low", "high"] ["tellings", "clock"] (defScope s_width_of) := ⟨rfl, rfl, rfl, by decide +kernel, rfl, by decide +kernel, by decide +kernel⟩
theorem fn_width_of (T : Tx K mg) : Fn P w K mg base 7 "width_of" ["tellings", "clock"] [] (spD K R_width_of) := by
  refine Fn.mk_ T m_width_of rfl g_width_of (fun _ _ _ _ _ _ us hl => match us, hl with | [_, _], _ => rfl) fun fd F => fn_body F sc_width_of (by rintro _ _ ⟨⟩; rfl) fun cdv A outer s H E hr ds r hR => ?_
  cases hR with
  | @mk D0 M0 ts c z h hc =>
    refine sds_cons (sd_asgT (pd_call (fn_stretch_by T) hr (by decide) (pds_cons (pd_var 0) (pds_cons (pd_var 1) (pds_cons pd_int pds_nil))) (.mk (o := 0) z h hc (by decide))) (gd_tup (gds_cons (gd_name 2 sc_width_of.nd) (gds_cons (gd_name 3 sc_width_of.nd) gds_nil))) ?_)
    have hw := widthD.eq_1 ts c
    cases hl : lowD ts c 0 with
    | none =>
      rw [hl] at hw
      rw [hw]
      exact sds_cons (sd_if (wq_q (wq_or (q := true) (pq_cmp (cd_isN (pd_var 2))) fun h1 => by cases h1)) (fun h2 => sds_cons (sd_ret pd_non rfl)) (fun h2 => by cases h2))
    | some l =>
      cases hh : farD ts c 0 with
      | none =>
        rw [hl, hh] at hw
        rw [hw]
        exact sds_cons (sd_if (wq_q (wq_or (pq_cmp (cd_isN (pd_var 2))) fun h1 => (wq_or1 (pq_cmp (cd_isN (pd_var 3)))))) (fun h2 => sds_cons (sd_ret pd_non rfl)) (fun h2 => by cases h2))
      | some x =>
        rw [hl, hh] at hw
        rw [hw]
        refine sds_cons (sd_if (wq_q (wq_or (pq_cmp (cd_isN (pd_var 2))) fun h1 => (wq_or1 (pq_cmp (cd_isN (pd_var 3)))))) (fun h2 => by cases h2) (fun h2 => sds_nil ?_))
        exact sds_cons (sd_ret (pd_call (fn_minus T) hr (by decide) (pds_cons (pd_var 3) (pds_cons (pd_var 2) pds_nil)) (.mk (z.sm 192 (far_gr h (by decide) hh)) (z.sm 192 (low_gr2 h hc hl)))) rfl)
inductive R_worst_by : List PyData → Res → Prop
  | mk {D M : Nat} {ts : List Tel} {c : Nat} (z : Sz D M) (h : Tels D M ts) (hc : c < 6) : R_worst_by [dTels ts, .tuple [.int c]] (.dat (dO (widthD ts c)))
theorem sc_worst_by : FnScope ["tellings", "clocks", "found", "clock", "width"] ["tellings", "clocks"] (defScope s_worst_by) := ⟨rfl, rfl, rfl, by decide +kernel, rfl, by decide +kernel, by decide +kernel⟩
theorem one_get {c i x : Nat} (h : [c][i]? = some x) : i = 0 ∧ x = c := by
  cases i with
  | zero => exact ⟨rfl, (Option.some.inj h).symm⟩
  | succ i => simp at h
theorem fn_worst_by (T : Tx K mg) : Fn P w K mg base 8 "worst_by" ["tellings", "clocks"] [] (spD K R_worst_by) := by
  refine Fn.mk_ T m_worst_by rfl g_worst_by (fun _ _ _ _ _ _ us hl => match us, hl with | [_, _], _ => rfl) fun fd F => fn_body F sc_worst_by (by rintro _ _ ⟨⟩; rfl) fun cdv A outer s H E hr ds r hR => ?_
  cases hR with
  | @mk D0 M0 ts c z h hc =>
    refine sds_cons (sd_asg 2 sc_worst_by.nd pd_non ?_)
    refine sds_cons (sd_for (is := [3]) (fun n : Nat => .int (n : Int)) [c] (fun i M G D => D = [] ∧ ∃ a3 a4, G = [.dat (dTels ts), .dat (.tuple [.int c]), .dat (if i = 0 then .none else dO (widthD ts c)), a3, a4]) (id_tup (pd_var 1)) ?_ (fun i x M G D hx hP => ?_) (fun M G D hP => ?_))
    · exact ⟨rfl, _, _, rfl⟩
    · obtain ⟨rfl, a3, a4, rfl⟩ := hP
      obtain ⟨rfl, rfl⟩ := one_get hx
      refine ⟨_, (gd_name 3 sc_worst_by.nd), ?_⟩
      refine sds_cons (sd_asg 4 sc_worst_by.nd (pd_call (fn_width_of T) hr (by decide) (pds_cons (pd_var 0) (pds_cons (pd_var 3) pds_nil)) (.mk z h hc)) ?_)
      cases hw : widthD ts x with
      | none => exact sds_cons (sd_if (pq_cmp (cd_isN (pd_var 4))) (fun h1 => sds_cons (sd_ret pd_non rfl)) (fun h1 => by cases h1))
      | some q =>
        refine sds_cons (sd_if (pq_cmp (cd_isN (pd_var 4))) (fun h1 => by cases h1) (fun h1 => sds_nil ?_))
        exact sds_cons (sd_if (wq_q (wq_or (q := true) (pq_cmp (cd_isN (pd_var 2))) fun h2 => by cases h2)) (fun h3 => sds_cons (sd_asg 2 sc_worst_by.nd (pd_var 4) (sds_nil (sds_nil ⟨rfl, _, _, rfl⟩)))) (fun h3 => by cases h3))
    · obtain ⟨rfl, a3, a4, rfl⟩ := hP
      exact sds_cons (sd_ret (pd_var 2) rfl)
inductive R_worst_of : List PyData → Res → Prop
  | mk {D M : Nat} {ts : List Tel} {p : Nat → Rat} {c : Nat} (z : Sz D M) (h : Tels D M ts) (hp : Pot (stepsOf ts) p) (hc : 1 ≤ c) (h6 : c < 6) : R_worst_of [dTels ts, .tuple [.int c]] (.dat (dO (widthD ts c)))
theorem sc_worst_of : FnScope ["tellings", "clocks"] ["tellings", "clocks"] (defScope s_worst_of) := ⟨rfl, rfl, rfl, by decide +kernel, rfl, by decide +kernel, by decide +kernel⟩
theorem ok_worst_of (T : Tx K mg) {ds : List V} {fd : FuncData} (F : FunD K d_worst_of.name d_worst_of.qual (defArgs d_worst_of.st) (defBody d_worst_of.st) (defScope d_worst_of.st) ds [] d_worst_of.f fd) : FnOk P w K mg base CX0 9 d_worst_of.f fd ["tellings", "clocks"] (spD K R_worst_of) := by
  refine fn_body F sc_worst_of (by rintro _ _ ⟨⟩; rfl) fun cdv A outer s H E hr ds r hR => ?_
  cases hR with
  | mk z h hp hc h6 =>
    refine sds_cons (sd_expr (pd_call (fn_need_tellings T) hr (by decide) (pds_cons (pd_var 0) pds_nil) (.mk z h)) ?_)
    refine sds_cons (sd_expr (pd_call (fn_need_watched T) hr (by decide) (pds_cons (pd_var 1) pds_nil) (.mk hc h6)) ?_)
    refine sds_cons (sd_expr (pd_call (fn_need_together T) hr (by decide) (pds_cons (pd_var 0) pds_nil) (.mk z h hp)) ?_)
    exact sds_cons (sd_ret (pd_call (fn_worst_by T) hr (by decide) (pds_cons (pd_var 0) (pds_cons (pd_var 1) pds_nil)) (.mk z h h6)) rfl)
theorem fn_worst_of (T : Tx K mg) : Fn P w K mg base 9 "worst_of" ["tellings", "clocks"] [] (spD K R_worst_of) := Fn.mk_ T m_worst_of rfl g_worst_of (fun _ _ _ _ _ _ us hl => match us, hl with | [_, _], _ => rfl) fun fd F => ok_worst_of T F
theorem fk_worst_of (T : Tx K mg) : FnK P w K mg base 9 "worst_of" ["tellings", "clocks"] ["clocks", "tellings"] List.reverse (spD K R_worst_of) := FnK.mk_ T m_worst_of rfl g_worst_of (fun _ _ _ _ _ _ ws hl => match ws, hl with | [_, _], _ => rfl) fun fd F => ok_worst_of T F
/-! ### without, binding, needless -/
inductive R_without : List PyData → Res → Prop
  | mk {ts : List Tel} {n : Nat} (h : ts.length ≤ 16) (hn : n < ts.length) : R_without [dTels ts, .int n] (.dat (dTels (woT ts n)))
theorem sc_without : FnScope ["tellings", "number"] ["tellings", "number"] (defScope s_without) := ⟨rfl, rfl, rfl, by decide +kernel, rfl, by decide +kernel, by decide +kernel⟩
theorem cut_take {ds : List PyData} {n : Nat} (h : n ≤ ds.length) : cutD ds none (some (n : Int)) = ds.take n := by
  unfold cutD
  rw [HT.sIx_none, HT.sIx_nat, List.drop_zero, Nat.sub_zero, Nat.min_eq_left h]
theorem cut_drop {ds : List PyData} {n : Nat} (h : n + 1 ≤ ds.length) : cutD ds (some ((n : Int) + 1)) none = ds.drop (n + 1) := by
  unfold cutD
  rw [HT.sIx_none, show ((n : Int) + 1) = ((n + 1 : Nat) : Int) from rfl, HT.sIx_nat, Nat.min_eq_left h]
  exact List.take_of_length_le (by rw [List.length_drop]; omega)
theorem fn_without (T : Tx K mg) : Fn P w K mg base 1 "without" ["tellings", "number"] [] (spD K R_without) := by
  refine Fn.mk_ T m_without rfl g_without (fun _ _ _ _ _ _ us hl => match us, hl with | [_, _], _ => rfl) fun fd F => fn_body F sc_without (by rintro _ _ ⟨⟩; rfl) fun cdv A outer s H E hr ds r hR => ?_
  cases hR with
  | @mk ts n h hn =>
    have hl : (ts.map dTel).length = ts.length := List.length_map ..
    refine sds_cons (sd_ret (pd_cat (pd_slice (pd_var 0) qo_none (qo_some (pd_var 1))) (pd_slice (pd_var 0) (qo_some (pd_add (pd_var 1) pd_int)) qo_none) ?_) ?_)
    · rw [cut_take (by omega), cut_drop (by omega), List.length_take, List.length_drop]
      omega
    · rw [cut_take (by omega), cut_drop (by omega)]
      unfold woT dTels
      rw [List.map_append, List.map_take, List.map_drop]
end
end Gk
end

section
set_option linter.all false
set_option maxRecDepth 100000
namespace Gk
open PySem PySem.Spec PyProof.Rows L2 Evl
def bindB (ts : List Tel) (c n : Nat) : Bool := !PyData.eqv (strD (woT ts n) c) (strD ts c)
def bindL (ts : List Tel) (c : Nat) : List Nat := (List.range ts.length).filter (bindB ts c)
abbrev allD (ts : List Tel) : List PyData := (List.range 6).map fun c => strD ts c
def freB (ts : List Tel) (n : Nat) : Bool := PyData.eqv (.list (allD (woT ts n))) (.list (allD ts))
def freL (ts : List Tel) : List Nat := (List.range ts.length).filter (freB ts)
theorem sh_all6 {ts : List Tel} : sh 9 (.list (allD ts)) = true := sh_lst (n := 8) fun d hd => by
  obtain ⟨c, _, rfl⟩ := List.mem_map.mp hd
  exact sh_str2
theorem nI_snoc (l : List Nat) (n : Nat) : (nI l).map PyData.int ++ [.int (n : Int)] = (nI (l ++ [n])).map .int := by
  unfold nI
  rw [List.map_append, List.map_append] <;> rfl
theorem range_take {n i : Nat} (q : Nat → Bool) (h : i < n) : ((List.range n).take (i + 1)).filter q = ((List.range n).take i).filter q ++ if q i = true then [i] else [] := take_filter (List.getElem?_range h)
section
variable {P : Program} {w : World} {K : PySem.W.Frag} {mg : Str → Option Value} {base : Heap}
inductive R_binding : List PyData → Res → Prop
  | mk {D M : Nat} {ts : List Tel} {p : Nat → Rat} {c : Nat} (z : Sz D M) (h : Tels D M ts) (hp : Pot (stepsOf ts) p) (hc : 1 ≤ c) (h6 : c < 6) : R_binding [dTels ts, .int c] (.dat (dNs (bindL ts c)))
theorem sc_binding : FnScope ["tellings", "clock", "own", "found", "number"] ["tellings", "clock"] (defScope s_binding) := ⟨rfl, rfl, rfl, by decide +kernel, rfl, by decide +kernel, by decide +kernel⟩
theorem ok_binding (T : Tx K mg) {ds : List V} {fd : FuncData} (F : FunD K d_binding.name d_binding.qual (defArgs d_binding.st) (defBody d_binding.st) (defScope d_binding.st) ds [] d_binding.f fd) : FnOk P w K mg base CX0 8 d_binding.f fd ["tellings", "clock"] (spD K R_binding) := by
  refine fn_body F sc_binding (by rintro _ _ ⟨⟩; rfl) fun cdv A outer s H E hr ds r hR => ?_
  cases hR with
  | @mk D0 M0 ts p c z h hp hc h6 =>
    have hl := h.len
    have hdl : (ts.map dTel).length = ts.length := List.length_map ..
    refine sds_cons (sd_expr (pd_call (fn_need_tellings T) hr (by decide) (pds_cons (pd_var 0) pds_nil) (.mk z h)) ?_)
    refine sds_cons (sd_expr (pd_call (fn_need_other_clock T) hr (by decide) (pds_cons (pd_var 1) pds_nil) (.mk hc h6)) ?_)
    refine sds_cons (sd_expr (pd_call (fn_need_together T) hr (by decide) (pds_cons (pd_var 0) pds_nil) (.mk z h hp)) ?_)
    refine sds_cons (sd_asg 2 sc_binding.nd (pd_call (fn_stretch_by T) hr (by decide) (pds_cons (pd_var 0) (pds_cons (pd_var 1) (pds_cons pd_int pds_nil))) (.mk (o := 0) z h h6 (by decide))) ?_)
    refine sds_cons (sd_asgL 3 sc_binding.nd (pl_lst pds_nil) fun l3 => ?_)
    refine sds_cons (sd_for (is := [4]) (fun i : Nat => .int (i : Int)) (List.range ts.length) (fun i M G D => M = [l3] ∧ D = [(l3, (nI (((List.range ts.length).take i).filter (bindB ts c))).map .int)] ∧ ∃ a4, G = [.dat (dTels ts), .dat (.int c), .dat (strD ts c), .ref l3, a4]) (by rw [← rngN, ← hdl]; exact id_range1 (pd_lenT (pd_var 0) T.len) (by omega) (by omega) T.range) ?_ (fun i x M G D hx hP => ?_) (fun M G D hP => ?_))
    · exact ⟨rfl, rfl, _, rfl⟩
    · obtain ⟨rfl, rfl, a4, rfl⟩ := hP
      obtain ⟨rfl, hx6⟩ := range_get hx
      have hz : ((nI (((List.range ts.length).take x).filter (bindB ts c))).map PyData.int).length ≤ 1000 := by
        unfold nI
        rw [List.length_map, List.length_map]
        have h1 := List.length_filter_le (bindB ts c) ((List.range ts.length).take x)
        have h2 : ((List.range ts.length).take x).length ≤ ts.length := by rw [List.length_take, List.length_range]; omega
        omega
      rw [range_take _ hx6]
      refine ⟨_, (gd_name 4 sc_binding.nd), ?_⟩
      refine sds_cons (sd_if (pq_cmp (cd_ne' hr (pd_call (fn_stretch_by T) hr (by decide) (pds_cons (pd_call (fn_without T) hr (by decide) (pds_cons (pd_var 0) (pds_cons (pd_var 4) pds_nil)) (.mk hl hx6)) (pds_cons (pd_var 1) (pds_cons pd_int pds_nil))) (.mk (o := 0) z (wo_ok h x) h6 (by decide))) (pd_var 2) sh_str2 sh_str2)) (fun h1 => ?_) (fun h1 => ?_))
      · have h2 : bindB ts c x = true := h1
        rw [h2, if_pos rfl, ← nI_snoc]
        exact sds_cons (sd_app (D1 := []) 3 (pd_var 4) hz (sds_nil (sds_nil ⟨rfl, rfl, _, rfl⟩)))
      · have h2 : bindB ts c x = false := h1
        rw [h2, if_neg Bool.false_ne_true, List.append_nil]
        exact sds_nil (sds_nil ⟨rfl, rfl, _, rfl⟩)
    · obtain ⟨rfl, rfl, a4, rfl⟩ := hP
      rw [List.take_length]
      exact sds_cons (sd_ret (pd_tupL (pr_var 3 (hp := List.mem_cons_self ..)) T.tuple) rfl)
theorem fn_binding (T : Tx K mg) : Fn P w K mg base 8 "binding" ["tellings", "clock"] [] (spD K R_binding) := Fn.mk_ T m_binding rfl g_binding (fun _ _ _ _ _ _ us hl => match us, hl with | [_, _], _ => rfl) fun fd F => ok_binding T F
theorem fk_binding (T : Tx K mg) : FnK P w K mg base 8 "binding" ["tellings", "clock"] ["clock", "tellings"] List.reverse (spD K R_binding) := FnK.mk_ T m_binding rfl g_binding (fun _ _ _ _ _ _ ws hl => match ws, hl with | [_, _], _ => rfl) fun fd F => ok_binding T F
inductive R_all_stretches : List PyData → Res → Prop
  | mk {D M : Nat} {ts : List Tel} (z : Sz D M) (h : Tels D M ts) : R_all_stretches [dTels ts] (.lst (allD ts))
theorem sc_all_stretches : FnScope ["tellings", "clock"] ["tellings"] (defScope s_all_stretches) := ⟨rfl, rfl, rfl, by decide +kernel, rfl, by decide +kernel, by decide +kernel⟩
theorem fn_all_stretches (T : Tx K mg) : Fn P w K mg base 7 "all_stretches" ["tellings"] [] (spD K R_all_stretches) := by
  refine Fn.mk_ T m_all_stretches rfl g_all_stretches (fun _ _ _ _ _ _ us hl => match us, hl with | [_], _ => rfl) fun fd F => fn_body F sc_all_stretches (by rintro _ _ ⟨⟩; rfl) fun cdv A outer s H E hr ds r hR => ?_
  cases hR with
  | @mk D0 M0 ts z h =>
    exact sds_cons (sd_retL (pl_lc (own := [("clock", 1)]) (lc_map (fun i : Nat => .int (i : Int)) (List.range 6) (fun c => strD ts c) (fun x hx => ⟨_, (fun _ _ _ _ _ => (gd_name 1 sc_all_stretches.nd)), (fun _ _ _ _ _ => qs_nil), fun _ _ _ _ _ _ => (pd_call (fn_stretch_by T) hr (by decide) (pds_cons (pd_var 0) (pds_cons (pd_var 1) (pds_cons pd_int pds_nil))) (.mk (o := 0) z h (List.mem_range.mp hx) (by decide)))⟩) (by decide) (by rw [← rng6]; exact id_range1 (k_CLOCKS T) (by decide) (by decide) T.range)) sc_all_stretches.nd (blkOk_by rfl)) rfl)
inductive R_needless : List PyData → Res → Prop
  | mk {D M : Nat} {ts : List Tel} {p : Nat → Rat} (z : Sz D M) (h : Tels D M ts) (hp : Pot (stepsOf ts) p) : R_needless [dTels ts] (.dat (dNs (freL ts)))
theorem sc_needless : FnScope ["tellings", "own", "found", "number"] ["tellings"] (defScope s_needless) := ⟨rfl, rfl, rfl, by decide +kernel, rfl, by decide +kernel, by decide +kernel⟩
theorem ok_needless (T : Tx K mg) {ds : List V} {fd : FuncData} (F : FunD K d_needless.name d_needless.qual (defArgs d_needless.st) (defBody d_needless.st) (defScope d_needless.st) ds [] d_needless.f fd) : FnOk P w K mg base CX0 8 d_needless.f fd ["tellings"] (spD K R_needless) := by
  refine fn_body F sc_needless (by rintro _ _ ⟨⟩; rfl) fun cdv A outer s H E hr ds r hR => ?_
  cases hR with
  | @mk D0 M0 ts p z h hp =>
    have hl := h.len
    have hdl : (ts.map dTel).length = ts.length := List.length_map ..
    refine sds_cons (sd_expr (pd_call (fn_need_tellings T) hr (by decide) (pds_cons (pd_var 0) pds_nil) (.mk z h)) ?_)
    refine sds_cons (sd_expr (pd_call (fn_need_together T) hr (by decide) (pds_cons (pd_var 0) pds_nil) (.mk z h hp)) ?_)
    refine sds_cons (sd_asgL 1 sc_needless.nd (pl_call (fn_all_stretches T) hr (by decide) (pds_cons (pd_var 0) pds_nil) (.mk z h)) fun l1 => ?_)
    refine sds_cons (sd_asgL 2 sc_needless.nd (pl_lst pds_nil) fun l2 => ?_)
    refine sds_cons (sd_for (is := [3]) (fun i : Nat => .int (i : Int)) (List.range ts.length) (fun i M G D => M = [l2, l1] ∧ D = [(l2, (nI (((List.range ts.length).take i).filter (freB ts))).map .int), (l1, allD ts)] ∧ ∃ a3, G = [.dat (dTels ts), .ref l1, .ref l2, a3]) (by rw [← rngN, ← hdl]; exact id_range1 (pd_lenT (pd_var 0) T.len) (by omega) (by omega) T.range) ?_ (fun i x M G D hx hP => ?_) (fun M G D hP => ?_))
    · exact ⟨rfl, rfl, _, rfl⟩
    · obtain ⟨rfl, rfl, a3, rfl⟩ := hP
      obtain ⟨rfl, hx6⟩ := range_get hx
      have hz : ((nI (((List.range ts.length).take x).filter (freB ts))).map PyData.int).length ≤ 1000 := by
        unfold nI
        rw [List.length_map, List.length_map]
        have h1 := List.length_filter_le (freB ts) ((List.range ts.length).take x)
        have h2 : ((List.range ts.length).take x).length ≤ ts.length := by rw [List.length_take, List.length_range]; omega
        omega
      rw [range_take _ hx6]
      refine ⟨_, (gd_name 3 sc_needless.nd), ?_⟩
      refine sds_cons (sd_if (pq_cmp (cd_eqLL hr (pl_r (pl_call (fn_all_stretches T) hr (by decide) (pds_cons (pd_call (fn_without T) hr (by decide) (pds_cons (pd_var 0) (pds_cons (pd_var 3) pds_nil)) (.mk hl hx6)) pds_nil) (.mk z (wo_ok h x)))) (pr_var 1 (hp := List.mem_cons_of_mem _ (List.mem_cons_self ..))) sh_all6 sh_all6)) (fun h1 => ?_) (fun h1 => ?_))
      · have h2 : freB ts x = true := h1
        rw [h2, if_pos rfl, ← nI_snoc]
        exact sds_cons (sd_app (D1 := []) 2 (pd_var 3) hz (sds_nil (sds_nil ⟨rfl, rfl, _, rfl⟩)))
      · have h2 : freB ts x = false := h1
        rw [h2, if_neg Bool.false_ne_true, List.append_nil]
        exact sds_nil (sds_nil ⟨rfl, rfl, _, rfl⟩)
    · obtain ⟨rfl, rfl, a3, rfl⟩ := hP
      rw [List.take_length]
      exact sds_cons (sd_ret (pd_tupL (pr_var 2 (hp := List.mem_cons_self ..)) T.tuple) rfl)
theorem fn_needless (T : Tx K mg) : Fn P w K mg base 8 "needless" ["tellings"] [] (spD K R_needless) := Fn.mk_ T m_needless rfl g_needless (fun _ _ _ _ _ _ us hl => match us, hl with | [_], _ => rfl) fun fd F => ok_needless T F
theorem fk_needless (T : Tx K mg) : FnK P w K mg base 8 "needless" ["tellings"] ["tellings"] List.reverse (spD K R_needless) := FnK.mk_ T m_needless rfl g_needless (fun _ _ _ _ _ _ ws hl => match ws, hl with | [_], _ => rfl) fun fd F => ok_needless T F
/-! ### need_few, best_offer -/
inductive R_need_few : List PyData → Res → Prop
  | mk {ts : List Tel} (h : ts.length ≤ 10) : R_need_few [dTels ts] (.dat .none)
theorem sc_need_few : FnScope ["tellings"] ["tellings"] (defScope s_need_few) := ⟨rfl, rfl, rfl, by decide +kernel, rfl, by decide +kernel, by decide +kernel⟩
theorem fn_need_few (T : Tx K mg) : Fn P w K mg base 1 "need_few" ["tellings"] [] (spD K R_need_few) := by
  refine Fn.mk_ T m_need_few rfl g_need_few (fun _ _ _ _ _ _ us hl => match us, hl with | [_], _ => rfl) fun fd F => fn_body F sc_need_few (by rintro _ _ ⟨⟩; rfl) fun cdv A outer s H E hr ds r hR => ?_
  cases hR with
  | mk h =>
    refine sds_cons (sd_if (pq_cmp (cd_gt (pd_lenT (pd_var 0) T.len) (k_MOST_OFFERED T))) (fun h1 => ?_) (fun _ => sds_nil (sds_nil rfl)))
    have := of_decide_eq_true h1
    rw [List.length_map] at this
    omega
def bstO (ts : List Tel) (c : Nat) (f : Option (Nat × Rat)) (p : Nat × Tel) : Option (Nat × Rat) := match widthD (ts ++ [p.2]) c with
  | none => f
  | some q => match f with
    | none => some (p.1, q)
    | some (n, x) => if q < x then some (p.1, q) else some (n, x)
def bestD (ts os : List Tel) (c : Nat) : Option (Nat × Rat) := (enumL 0 os).foldl (bstO ts c) none
def dBest : Option (Nat × Rat) → PyData
  | none => .none
  | some (n, q) => .tuple [.int n, dP q]
theorem fold_take {α β : Type} {f : β → α → β} {xs : List α} {i : Nat} {x : α} {b : β} (h : xs[i]? = some x) : (xs.take (i + 1)).foldl f b = f ((xs.take i).foldl f b) x := by
  rw [List.take_add_one, h, List.foldl_append] <;> rfl
structure Offs (D M : Nat) (ts os : List Tel) : Prop where
  l1 : 1 ≤ os.length
  l6 : os.length ≤ 6
  ok : ∀ o ∈ os, TelOk D M o
  pot : ∀ o ∈ os, ∃ p, Pot (stepsOf (ts ++ [o])) p
theorem more_ok {D M : Nat} {ts : List Tel} (h : Tels D M ts) (hl : ts.length ≤ 10) {o : Tel} (ho : TelOk D M o) : Tels D M (ts ++ [o]) := ⟨by rw [List.length_append, List.length_singleton]; omega, fun t ht => by
  rcases List.mem_append.mp ht with q | q
  · exact h.ok t q
  · rw [List.mem_singleton.mp q]; exact ho⟩
inductive R_best_offer : List PyData → Res → Prop
  | mk {D M : Nat} {ts os : List Tel} {p : Nat → Rat} {c : Nat} (z : Sz D M) (h : Tels D M ts) (hl : ts.length ≤ 10) (hp : Pot (stepsOf ts) p) (ho : Offs D M ts os) (hc : 1 ≤ c) (h6 : c < 6) : R_best_offer [dTels ts, dTels os, .tuple [.int c]] (.dat (dBest (bestD ts os c)))
theorem sc_best_offer : FnScope ["tellings", "offers", "clocks", "found", "number", "offer", "more", "width", "one"] ["tellings", "offers", "clocks"] (defScope s_best_offer) := ⟨rfl, rfl, rfl, by decide +kernel, rfl, by decide +kernel, by decide +kernel⟩
set_option maxHeartbeats 1000000 in
theorem ok_best_offer (T : Tx K mg) {ds : List V} {fd : FuncData} (F : FunD K d_best_offer.name d_best_offer.qual (defArgs d_best_offer.st) (defBody d_best_offer.st) (defScope d_best_offer.st) ds [] d_best_offer.f fd) : FnOk P w K mg base CX0 9 d_best_offer.f fd ["tellings", "offers", "clocks"] (spD K R_best_offer) := by
  refine fn_body F sc_best_offer (by rintro _ _ ⟨⟩; rfl) fun cdv A outer s H E hr ds r hR => ?_
  cases hR with
  | @mk D0 M0 ts os p c z h hl hp ho hc h6 =>
    have o1 := ho.l1
    have o6 := ho.l6
    refine sds_cons (sd_expr (pd_call (fn_need_tellings T) hr (by decide) (pds_cons (pd_var 0) pds_nil) (.mk z h)) ?_)
    refine sds_cons (sd_if (wq_q (wq_or (pq_not (pq_val (pd_isT T.toTxt (pd_var 1)))) fun h1 => (wq_or1 (pq_not (pq_chain op_le op_le pd_int (pd_lenT (pd_var 1) T.len) (k_MOST_OFFERS T)))))) (fun h2 => ?_) (fun _ => sds_nil ?_))
    · rw [List.length_map, decide_eq_true (by omega), decide_eq_true (by omega)] at h2
      cases h2
    refine sds_cons (sd_if (pq_not (pq_val (pd_all rfl (pl_r (pl_lc (own := [("one", 8)]) (lc_bool dTel os (fun _ => true) (fun x hx => ⟨_, (fun _ _ _ _ _ => (gd_name 8 sc_best_offer.nd)), (fun _ _ _ _ _ => qs_nil), fun _ _ _ _ _ _ => (pd_call (fn_is_telling T) hr (by decide) (pds_cons (pd_var 8) pds_nil) (.mk z (ho.ok x hx)))⟩) (by omega) (id_tup (pd_var 1))) sc_best_offer.nd (blkOk_by rfl))) T.all))) (fun h3 => ?_) (fun _ => sds_nil ?_))
    · rw [all_true] at h3
      cases h3
    refine sds_cons (sd_expr (pd_call (fn_need_few T) hr (by decide) (pds_cons (pd_var 0) pds_nil) (.mk hl)) ?_)
    refine sds_cons (sd_expr (pd_call (fn_need_watched T) hr (by decide) (pds_cons (pd_var 2) pds_nil) (.mk hc h6)) ?_)
    refine sds_cons (sd_expr (pd_call (fn_need_together T) hr (by decide) (pds_cons (pd_var 0) pds_nil) (.mk z h hp)) ?_)
    refine sds_cons (sd_asg 3 sc_best_offer.nd pd_non ?_)
    refine sds_cons (sd_for (is := [4, 5]) (fun p : Nat × Tel => .tuple [.int p.1, dTel p.2]) (enumL 0 os) (fun i M G D => D = [] ∧ (∃ a4 a5 a6 a7 a8, G = [.dat (dTels ts), .dat (dTels os), .dat (.tuple [.int c]), .dat (dBest (((enumL 0 os).take i).foldl (bstO ts c) none)), a4, a5, a6, a7, a8]) ∧ ∀ n q, ((enumL 0 os).take i).foldl (bstO ts c) none = some (n, q) → Sm q) (by rw [← enums_map]; exact id_enum (pd_var 1) T.enumerate) ?_ (fun i x M G D hx hP => ?_) (fun M G D hP => ?_))
    · exact ⟨rfl, ⟨_, _, _, _, _, rfl⟩, fun n q e => by cases e⟩
    · obtain ⟨rfl, ⟨a4, a5, a6, a7, a8, rfl⟩, hsm⟩ := hP
      have hm := List.mem_of_getElem? (enumL_get hx).2
      have tk := more_ok h hl (ho.ok x.2 hm)
      obtain ⟨p2, hp2⟩ := ho.pot x.2 hm
      rw [fold_take hx]
      generalize ((enumL 0 os).take i).foldl (bstO ts c) none = f at hsm
      have hst := bstO.eq_1 ts c f x
      have em : (ts.map dTel) ++ [dTel x.2] = (ts ++ [x.2]).map dTel := by rw [List.map_append] <;> rfl
      refine ⟨_, (gd_tup (gds_cons (gd_name 4 sc_best_offer.nd) (gds_cons (gd_name 5 sc_best_offer.nd) gds_nil))), ?_⟩
      refine sds_cons (sd_asg (d := dTels (ts ++ [x.2])) 6 sc_best_offer.nd (by unfold dTels; rw [← em]; exact (pd_cat (pd_var 0) (pd_tup (pds_cons (pd_var 5) pds_nil)) (by rw [List.length_map]; show ts.length + 1 ≤ 1000; omega))) ?_)
      refine sds_cons (sd_asg 7 sc_best_offer.nd (pd_ifExp (p := true) (pq_val (pd_call (fn_together T) hr (by decide) (pds_cons (pd_var 6) pds_nil) (.mk z tk hp2))) (fun h4 => (pd_call (fn_worst_by T) hr (by decide) (pds_cons (pd_var 6) (pds_cons (pd_var 2) pds_nil)) (.mk z tk h6))) (fun h5 => by cases h5)) ?_)
      cases hw : widthD (ts ++ [x.2]) c with
      | none =>
        rw [hw] at hst
        dsimp only at hst
        rw [hst]
        exact sds_cons (sd_if (wq_q (wq_and (q := true) (pq_cmp (cd_notN (pd_var 7))) fun h6 => by cases h6)) (fun h8 => by cases h8) (fun h8 => sds_nil (sds_nil ⟨rfl, ⟨_, _, _, _, _, rfl⟩, hsm⟩)))
      | some q =>
        rw [hw] at hst
        dsimp only at hst
        have sq : Sm q := z.sm 384 (width_gr tk h6 hw)
        cases f with
        | none =>
          dsimp only at hst
          rw [hst]
          refine sds_cons (sd_if (wq_q (wq_and (pq_cmp (cd_notN (pd_var 7))) fun h6 => (wq_and1 (wq_q (wq_or (q := true) (pq_cmp (cd_isN (pd_var 3))) fun h7 => by cases h7))))) (fun h8 => ?_) (fun h8 => by cases h8))
          exact sds_cons (sd_asg 3 sc_best_offer.nd (pd_tup (pds_cons (pd_var 4) (pds_cons (pd_var 7) pds_nil))) (sds_nil (sds_nil ⟨rfl, ⟨_, _, _, _, _, rfl⟩, fun n q' e => by cases e; exact sq⟩)))
        | some g =>
          obtain ⟨n0, x0⟩ := g
          dsimp only at hst
          have s0 := hsm n0 x0 rfl
          refine sds_cons (sd_if (wq_q (wq_and (pq_cmp (cd_notN (pd_var 7))) fun h6 => (wq_and1 (wq_q (wq_or (pq_cmp (cd_isN (pd_var 3))) fun h7 => (wq_or1 (pq_val (pd_call (fn_below T) hr (by decide) (pds_cons (pd_var 7) (pds_cons (pd_ix (pd_var 3) pd_int rfl) pds_nil)) (.mk sq s0))))))))) (fun h8 => ?_) (fun h8 => ?_))
          · have h9 : q < x0 := of_decide_eq_true h8
            rw [if_pos h9] at hst
            rw [hst]
            exact sds_cons (sd_asg 3 sc_best_offer.nd (pd_tup (pds_cons (pd_var 4) (pds_cons (pd_var 7) pds_nil))) (sds_nil (sds_nil ⟨rfl, ⟨_, _, _, _, _, rfl⟩, fun n q' e => by cases e; exact sq⟩)))
          · have h9 : ¬ q < x0 := of_decide_eq_false h8
            rw [if_neg h9] at hst
            rw [hst]
            exact sds_nil (sds_nil ⟨rfl, ⟨_, _, _, _, _, rfl⟩, hsm⟩)
    · obtain ⟨rfl, ⟨a4, a5, a6, a7, a8, rfl⟩, hsm⟩ := hP
      rw [List.take_length]
      exact sds_cons (sd_ret (pd_var 3) rfl)
theorem fn_best_offer (T : Tx K mg) : Fn P w K mg base 9 "best_offer" ["tellings", "offers", "clocks"] [] (spD K R_best_offer) := Fn.mk_ T m_best_offer rfl g_best_offer (fun _ _ _ _ _ _ us hl => match us, hl with | [_, _, _], _ => rfl) fun fd F => ok_best_offer T F
theorem fk_best_offer (T : Tx K mg) : FnK P w K mg base 9 "best_offer" ["tellings", "offers", "clocks"] ["clocks", "offers", "tellings"] List.reverse (spD K R_best_offer) := FnK.mk_ T m_best_offer rfl g_best_offer (fun _ _ _ _ _ _ ws hl => match ws, hl with | [_, _, _], _ => rfl) fun fd F => ok_best_offer T F
end
end Gk
end

section
set_option linter.all false
set_option maxRecDepth 100000
namespace Gk
open PySem PySem.Spec PyProof.Rows L2 Evl
def freeD (ts : List Tel) (c : Nat) : PyData := match farD ts c 0 with
  | none => .tuple [.str "free", .int c, sideD false, dNs (bnd false (stepsOf ts) c)]
  | some _ => match lowD ts c 0 with
    | none => .tuple [.str "free", .int c, sideD true, dNs (bnd true (stepsOf ts) c)]
    | some _ => .none
def holdB (ts : List Tel) (c : Nat) : Bool := match farD ts c 0 with
  | none => freeB false (stepsOf ts) c (bnd false (stepsOf ts) c)
  | some _ => match lowD ts c 0 with
    | none => freeB true (stepsOf ts) c (bnd true (stepsOf ts) c)
    | some _ => false
theorem sh_word {n : Nat} : sh n (.str "free") = true ∧ sh n (.str "ring") = true ∧ sh n (.str "wide") = true := by
  have h1 : PySem.PyData.canLay0 (.str "free") = true := by decide +kernel
  have h2 : PySem.PyData.canLay0 (.str "ring") = true := by decide +kernel
  have h3 : PySem.PyData.canLay0 (.str "wide") = true := by decide +kernel
  cases n <;> exact ⟨by unfold sh; exact h1, by unfold sh; exact h2, by unfold sh; exact h3⟩
theorem sh_nI {l : List Nat} {n : Nat} : sh (n + 1) (dNs l) = true := sh_map fun _ _ => sh_int
theorem sh_tag {a b c d : PyData} {n : Nat} (h1 : sh n a = true) (h2 : sh n b = true) (h3 : sh n c = true) (h4 : sh n d = true) : sh (n + 1) (.tuple [a, b, c, d]) = true := sh_tup fun x hx => by
  rcases List.mem_cons.mp hx with rfl | hx
  · exact h1
  · rcases List.mem_cons.mp hx with rfl | hx
    · exact h2
    · rcases List.mem_cons.mp hx with rfl | hx
      · exact h3
      · rcases List.mem_cons.mp hx with rfl | hx
        · exact h4
        · cases hx
theorem sh_freeD {ts : List Tel} {c n : Nat} : sh (n + 3) (freeD ts c) = true := by
  unfold freeD
  cases farD ts c 0 with
  | none => exact sh_tag sh_word.1 sh_int sh_side sh_nI
  | some q =>
    cases lowD ts c 0 with
    | none => exact sh_tag sh_word.1 sh_int sh_side sh_nI
    | some q => exact sh_non
section
variable {P : Program} {w : World} {K : PySem.W.Frag} {mg : Str → Option Value} {base : Heap}
structure Asked (D M : Nat) (ts : List Tel) (o : Tel) (c : Nat) : Prop where
  z : Sz D M
  h : Tels D M ts
  l : ts.length ≤ 10
  tel : TelOk D M o
  p : ∃ p, Pot (stepsOf ts) p
  p2 : ∃ p, Pot (stepsOf (ts ++ [o])) p
  c1 : 1 ≤ c
  c6 : c < 6
inductive R_need_asked : List PyData → Res → Prop
  | mk {D M : Nat} {ts : List Tel} {o : Tel} {c : Nat} {q : Option Rat} (a : Asked D M ts o c) : R_need_asked [dTels ts, dTel o, .tuple [.int c], dO q] (.dat .none)
theorem sc_need_asked : FnScope ["tellings", "offer", "clocks", "width"] ["tellings", "offer", "clocks", "width"] (defScope s_need_asked) := ⟨rfl, rfl, rfl, by decide +kernel, rfl, by decide +kernel, by decide +kernel⟩
theorem fn_need_asked (T : Tx K mg) : Fn P w K mg base 8 "need_asked" ["tellings", "offer", "clocks", "width"] [] (spD K R_need_asked) := by
  refine Fn.mk_ T m_need_asked rfl g_need_asked (fun _ _ _ _ _ _ us hl => match us, hl with | [_, _, _, _], _ => rfl) fun fd F => fn_body F sc_need_asked (by rintro _ _ ⟨⟩; rfl) fun cdv A outer s H E hr ds r hR => ?_
  cases hR with
  | @mk D0 M0 ts o c q a =>
    obtain ⟨p, hp⟩ := a.p
    refine sds_cons (sd_expr (pd_call (fn_need_tellings T) hr (by decide) (pds_cons (pd_var 0) pds_nil) (.mk a.z a.h)) ?_)
    refine sds_cons (sd_expr (pd_call (fn_need_telling T) hr (by decide) (pds_cons (pd_var 1) pds_nil) (.mk a.z a.tel)) ?_)
    refine sds_cons (sd_expr (pd_call (fn_need_few T) hr (by decide) (pds_cons (pd_var 0) pds_nil) (.mk a.l)) ?_)
    refine sds_cons (sd_expr (pd_call (fn_need_watched T) hr (by decide) (pds_cons (pd_var 2) pds_nil) (.mk a.c1 a.c6)) ?_)
    cases q with
    | none =>
      refine sds_cons (sd_if (wq_q (wq_and (q := true) (pq_cmp (cd_notN (pd_var 3))) fun h1 => by cases h1)) (fun h2 => by cases h2) (fun _ => sds_nil ?_))
      exact sds_cons (sd_expr (pd_call (fn_need_together T) hr (by decide) (pds_cons (pd_var 0) pds_nil) (.mk a.z a.h hp)) (sds_nil rfl))
    | some q =>
      refine sds_cons (sd_if (wq_q (wq_and (pq_cmp (cd_notN (pd_var 3))) fun h1 => (wq_and1 (pq_not (pq_val (pd_call (fn_is_part T) hr (by decide) (pds_cons (pd_var 3) pds_nil) .mk)))))) (fun h2 => by cases h2) (fun _ => sds_nil ?_))
      exact sds_cons (sd_expr (pd_call (fn_need_together T) hr (by decide) (pds_cons (pd_var 0) pds_nil) (.mk a.z a.h hp)) (sds_nil rfl))
inductive R_free_in : List PyData → Res → Prop
  | mk {D M : Nat} {ts : List Tel} {c : Nat} (z : Sz D M) (h : Tels D M ts) (h6 : c < 6) : R_free_in [dTels ts, .tuple [.int c]] (.dat (freeD ts c))
theorem sc_free_in : FnScope ["tellings", "clocks", "clock", "low", "high"] ["tellings", "clocks"] (defScope s_free_in) := ⟨rfl, rfl, rfl, by decide +kernel, rfl, by decide +kernel, by decide +kernel⟩
theorem fn_free_in (T : Tx K mg) : Fn P w K mg base 7 "free_in" ["tellings", "clocks"] [] (spD K R_free_in) := by
  refine Fn.mk_ T m_free_in rfl g_free_in (fun _ _ _ _ _ _ us hl => match us, hl with | [_, _], _ => rfl) fun fd F => fn_body F sc_free_in (by rintro _ _ ⟨⟩; rfl) fun cdv A outer s H E hr ds r hR => ?_
  cases hR with
  | @mk D0 M0 ts c z h h6 =>
    have hf := freeD.eq_1 ts c
    refine sds_cons (sd_for (is := [2]) (fun n : Nat => .int (n : Int)) [c] (fun i M G D => D = [] ∧ ∃ a2 a3 a4, G = [.dat (dTels ts), .dat (.tuple [.int c]), a2, a3, a4] ∧ (i = 0 ∨ freeD ts c = .none)) (id_tup (pd_var 1)) ?_ (fun i x M G D hx hP => ?_) (fun M G D hP => ?_))
    · exact ⟨rfl, _, _, _, rfl, .inl rfl⟩
    · obtain ⟨rfl, a2, a3, a4, rfl, _⟩ := hP
      obtain ⟨rfl, rfl⟩ := one_get hx
      refine ⟨_, (gd_name 2 sc_free_in.nd), ?_⟩
      refine sds_cons (sd_asgT (pd_call (fn_stretch_by T) hr (by decide) (pds_cons (pd_var 0) (pds_cons (pd_var 2) (pds_cons pd_int pds_nil))) (.mk (o := 0) z h h6 (by decide))) (gd_tup (gds_cons (gd_name 3 sc_free_in.nd) (gds_cons (gd_name 4 sc_free_in.nd) gds_nil))) ?_)
      cases hh : farD ts x 0 with
      | none =>
        rw [hh] at hf
        refine sds_cons (sd_if (pq_cmp (cd_isN (pd_var 4))) (fun h1 => ?_) (fun h1 => by cases h1))
        rw [hf]
        exact sds_cons (sd_ret (pd_tup (pds_cons pd_str (pds_cons (pd_var 2) (pds_cons pd_str (pds_cons (pd_call (fn_bound_to T) hr (by decide) (pds_cons (pd_var 0) (pds_cons (pd_var 2) (pds_cons pd_str pds_nil))) (.mk (b := false) h h6)) pds_nil))))) rfl)
      | some q =>
        rw [hh] at hf
        refine sds_cons (sd_if (pq_cmp (cd_isN (pd_var 4))) (fun h1 => by cases h1) (fun h1 => sds_nil ?_))
        cases hl : lowD ts x 0 with
        | none =>
          rw [hl] at hf
          refine sds_cons (sd_if (pq_cmp (cd_isN (pd_var 3))) (fun h1 => ?_) (fun h1 => by cases h1))
          rw [hf]
          exact sds_cons (sd_ret (pd_tup (pds_cons pd_str (pds_cons (pd_var 2) (pds_cons pd_str (pds_cons (pd_call (fn_bound_to T) hr (by decide) (pds_cons (pd_var 0) (pds_cons (pd_var 2) (pds_cons pd_str pds_nil))) (.mk (b := true) h h6)) pds_nil))))) rfl)
        | some q2 =>
          rw [hl] at hf
          exact sds_cons (sd_if (pq_cmp (cd_isN (pd_var 3))) (fun h1 => by cases h1) (fun h1 => sds_nil (sds_nil ⟨rfl, _, _, _, rfl, .inr hf⟩)))
    · obtain ⟨rfl, a2, a3, a4, rfl, hq⟩ := hP
      refine sds_cons (sd_ret pd_non ?_)
      rcases hq with hq | hq
      · cases hq
      · rw [hq]
inductive R_reason_for : List PyData → Res → Prop
  | mk {D M : Nat} {ts : List Tel} {o : Tel} {c : Nat} (a : Asked D M ts o c) : R_reason_for [dTels ts, dTel o, .tuple [.int c], .none] (.dat (freeD (ts ++ [o]) c))
theorem sc_reason_for : FnScope ["tellings", "offer", "clocks", "width", "more", "ring", "found"] ["tellings", "offer", "clocks", "width"] (defScope s_reason_for) := ⟨rfl, rfl, rfl, by decide +kernel, rfl, by decide +kernel, by decide +kernel⟩
theorem ok_reason_for (T : Tx K mg) {ds : List V} {fd : FuncData} (F : FunD K d_reason_for.name d_reason_for.qual (defArgs d_reason_for.st) (defBody d_reason_for.st) (defScope d_reason_for.st) ds [] d_reason_for.f fd) : FnOk P w K mg base CX0 9 d_reason_for.f fd ["tellings", "offer", "clocks", "width"] (spD K R_reason_for) := by
  refine fn_body F sc_reason_for (by rintro _ _ ⟨⟩; rfl) fun cdv A outer s H E hr ds r hR => ?_
  cases hR with
  | @mk D0 M0 ts o c a =>
    obtain ⟨p2, hp2⟩ := a.p2
    have tk := more_ok a.h a.l a.tel
    have hl := a.l
    have em : (ts.map dTel) ++ [dTel o] = (ts ++ [o]).map dTel := by rw [List.map_append] <;> rfl
    refine sds_cons (sd_expr (pd_call (fn_need_asked T) hr (by decide) (pds_cons (pd_var 0) (pds_cons (pd_var 1) (pds_cons (pd_var 2) (pds_cons (pd_var 3) pds_nil)))) (.mk (q := none) a)) ?_)
    refine sds_cons (sd_asg (d := dTels (ts ++ [o])) 4 sc_reason_for.nd (by unfold dTels; rw [← em]; exact (pd_cat (pd_var 0) (pd_tup (pds_cons (pd_var 1) pds_nil)) (by rw [List.length_map]; show ts.length + 1 ≤ 1000; omega))) ?_)
    refine sds_cons (sd_asg 5 sc_reason_for.nd (pd_call (fn_ring_in T) hr (by decide) (pds_cons (pd_var 4) pds_nil) (.mk a.z tk hp2)) ?_)
    refine sds_cons (sd_if (pq_cmp (cd_notN (pd_var 5))) (fun h1 => by cases h1) (fun h1 => sds_nil ?_))
    refine sds_cons (sd_asg 6 sc_reason_for.nd (pd_call (fn_free_in T) hr (by decide) (pds_cons (pd_var 4) (pds_cons (pd_var 2) pds_nil)) (.mk a.z tk a.c6)) ?_)
    refine sds_cons (sd_if (wq_q (wq_or (pq_cmp (cd_notN (pd_var 6))) fun h2 => (wq_or1 (pq_cmp (cd_isN (pd_var 3)))))) (fun h3 => ?_) (fun h3 => ?_))
    · exact sds_cons (sd_ret (pd_var 6) rfl)
    · have h4 : (!isNone (freeD (ts ++ [o]) c) || true) = false := h3
      rw [Bool.or_true] at h4
      cases h4
theorem fn_reason_for (T : Tx K mg) : Fn P w K mg base 9 "reason_for" ["tellings", "offer", "clocks", "width"] [] (spD K R_reason_for) := Fn.mkD (vs := [.non]) 4 1 T m_reason_for rfl (List.mem_of_getElem? (i := 5) rfl) (by simp) rfl g_reason_for (fun _ _ _ _ _ _ _ us its h1 h2 => match us, its, h1, h2 with | [_, _, _, _], [_], _, _ => ⟨_, rfl, rfl⟩) fun fd F => ok_reason_for T F
theorem fk_reason_for (T : Tx K mg) : FnK P w K mg base 9 "reason_for" ["tellings", "offer", "clocks", "width"] ["width", "clocks", "offer", "tellings"] (fun ds => ds.reverse ++ []) (spD K R_reason_for) := FnK.mkD (vs := [.non]) [] 1 T m_reason_for rfl (List.mem_of_getElem? (i := 5) rfl) (by simp) g_reason_for (fun _ _ _ _ _ _ _ us its ws h1 h2 h3 => match us, its, ws, h1, h2, h3 with | [], [_], [_, _, _, _], _, _, _ => ⟨_, rfl, rfl⟩) (fun H => rfl) fun fd F => ok_reason_for T F
theorem fk0_reason_for (T : Tx K mg) : FnK P w K mg base 9 "reason_for" ["tellings", "offer", "clocks", "width"] ["clocks", "offer", "tellings"] (fun ds => ds.reverse ++ [.none]) (spD K R_reason_for) := FnK.mkD (vs := [.non]) [.none] 0 T m_reason_for rfl (List.mem_of_getElem? (i := 5) rfl) (by simp) g_reason_for (fun _ _ _ _ _ _ _ us its ws h1 h2 h3 => match us, its, ws, h1, h2, h3 with | [], [_], [_, _, _], _, _, _ => ⟨_, rfl, rfl⟩) (fun H => Fts.one rfl) fun fd F => ok_reason_for T F
inductive R_reason_holds : List PyData → Res → Prop
  | mk {D M : Nat} {ts : List Tel} {o : Tel} {c : Nat} {q : Rat} (a : Asked D M ts o c) : R_reason_holds [dTels ts, dTel o, .tuple [.int c], dP q, freeD (ts ++ [o]) c] (.dat (.bool (holdB (ts ++ [o]) c)))
theorem sc_reason_holds : FnScope ["tellings", "offer", "clocks", "width", "thing", "more"] ["tellings", "offer", "clocks", "width", "thing"] (defScope s_reason_holds) := ⟨rfl, rfl, rfl, by decide +kernel, rfl, by decide +kernel, by decide +kernel⟩
set_option maxHeartbeats 1000000 in
theorem ok_reason_holds (T : Tx K mg) {ds : List V} {fd : FuncData} (F : FunD K d_reason_holds.name d_reason_holds.qual (defArgs d_reason_holds.st) (defBody d_reason_holds.st) (defScope d_reason_holds.st) ds [] d_reason_holds.f fd) : FnOk P w K mg base CX0 9 d_reason_holds.f fd ["tellings", "offer", "clocks", "width", "thing"] (spD K R_reason_holds) := by
  refine fn_body F sc_reason_holds (by rintro _ _ ⟨⟩; rfl) fun cdv A outer s H E hr ds r hR => ?_
  cases hR with
  | @mk D0 M0 ts o c q a =>
    have tk := more_ok a.h a.l a.tel
    have hl := a.l
    have em : (ts.map dTel) ++ [dTel o] = (ts ++ [o]).map dTel := by rw [List.map_append] <;> rfl
    refine sds_cons (sd_expr (pd_call (fn_need_asked T) hr (by decide) (pds_cons (pd_var 0) (pds_cons (pd_var 1) (pds_cons (pd_var 2) (pds_cons (pd_var 3) pds_nil)))) (.mk (q := some q) a)) ?_)
    refine sds_cons (sd_asg (d := dTels (ts ++ [o])) 5 sc_reason_holds.nd (by unfold dTels; rw [← em]; exact (pd_cat (pd_var 0) (pd_tup (pds_cons (pd_var 1) pds_nil)) (by rw [List.length_map]; show ts.length + 1 ≤ 1000; omega))) ?_)
    have main : ∀ (b : Bool) (M' : List Addr) (N : NP), SDs (cxOf CX0 P w K mg base ["tellings", "offer", "clocks", "width", "thing", "more"] d_reason_holds.qual (defScope d_reason_holds.st) d_reason_holds.f cdv A outer s H E).nox M'
        [.dat (dTels ts), .dat (dTel o), .dat (.tuple [.int c]), .dat (dP q), .dat (.tuple [.str "free", .int c, sideD b, dNs (bnd b (stepsOf (ts ++ [o])) c)]), .dat (dTels (ts ++ [o]))] [] (defBody d_reason_holds.st |>.drop 2) N (fun r' => r' = .dat (.bool (freeB b (stepsOf (ts ++ [o])) c (bnd b (stepsOf (ts ++ [o])) c)))) := fun b M' N => by
      have hsT : sh 9 (.tuple [.str "free", .int c, sideD b, dNs (bnd b (stepsOf (ts ++ [o])) c)]) = true := sh_tag (n := 8) sh_word.1 sh_int sh_side sh_nI
      have q1 : PyData.eqv (.tuple [.str "free", .int c, sideD b, dNs (bnd b (stepsOf (ts ++ [o])) c)]) (.tuple []) = false := rfl
      have q2 : PyData.eqv (.str "free") (.str "ring") = false := by decide +kernel
      have q3 : PyData.eqv (.str "free") (.str "free") = true := by decide +kernel
      have q4 : isStr (sideD b) = true := by cases b <;> rfl
      refine sds_cons (sd_if (wq_q (wq_or (pq_not (pq_val (pd_isT T.toTxt (pd_var 4)))) fun h1 => (wq_or (p := false) (pq_cmp (cd_eqV q1 hr (pd_var 4) (pd_tup pds_nil) hsT rfl)) fun h2 => (wq_or1 (pq_not (pq_val (pd_isS T.toTxt (pd_ix (d := .str "free") (pd_var 4) pd_int)))))))) (fun h3 => by cases h3) (fun h3 => sds_nil ?_))
      refine sds_cons (sd_if (b := false) (pq_cmp (cd_eqV q2 hr (pd_ix (pd_var 4) pd_int) pd_str sh_word.1 sh_word.2.1)) (fun h4 => by cases h4) (fun h4 => sds_nil ?_))
      refine sds_cons (sd_if (b := true) (pq_cmp (cd_eqV q3 hr (pd_ix (pd_var 4) pd_int) pd_str sh_word.1 sh_word.1)) (fun h6 => ?_) (fun h6 => by cases h6))
      refine sds_cons (sd_if (b := false) (wq_q (wq_or (p := false) (pq_cmp (cd_neV rfl hr (pd_lenT (ds := [.str "free", .int c, sideD b, dNs (bnd b (stepsOf (ts ++ [o])) c)]) (pd_var 4) T.len) pd_int)) fun h7 => (wq_or (p := false) (pq_not (p := true) (pq_val (pd_call (fn_is_clock_number T) hr (by decide) (pds_cons (pd_ix (pd_var 4) pd_int) pds_nil) (.nat a.c6)))) fun h8 => (wq_or1 (p := false) (pq_cmp ((cd_notInT (n := (c : Int)) (ns := [(c : Int)]) (pd_ix (pd_var 4) pd_int) (pd_var 2)).to (by simp))))))) (fun h9 => by cases h9) (fun h9 => sds_nil ?_))
      refine sds_cons (sd_if (b := false) (wq_q (wq_or (p := false) (pq_not (p := true) (pq_val (by rw [← q4]; exact pd_isS T.toTxt (pd_ix (d := sideD b) (pd_var 4) pd_int)))) fun h10 => (wq_or1 (p := false) (pq_cmp (cd_notInS (s := b) (pd_ix (pd_var 4) pd_int) (pd_tup (pds_cons pd_str (pds_cons pd_str pds_nil)))))))) (fun h11 => by cases h11) (fun h11 => sds_nil ?_))
      exact sds_cons (sd_ret (pd_call (fn_is_free T) hr (by decide) (pds_cons (pd_var 5) (pds_cons (pd_ix (pd_var 4) pd_int) (pds_cons (pd_ix (pd_var 4) pd_int) (pds_cons (pd_ix (pd_var 4) pd_int) pds_nil)))) (.mk tk (bnd_len (stepsOk tk) a.c6))) rfl)
    have hf := freeD.eq_1 (ts ++ [o]) c
    have hb := holdB.eq_1 (ts ++ [o]) c
    cases hh : farD (ts ++ [o]) c 0 with
    | none =>
      rw [hh] at hf hb
      dsimp only at hf hb
      rw [hb]
      rw [hf]
      exact main false _ _
    | some x =>
      rw [hh] at hf hb
      dsimp only at hf hb
      cases hl : lowD (ts ++ [o]) c 0 with
      | none =>
        rw [hl] at hf hb
        dsimp only at hf hb
        rw [hb]
        rw [hf]
        exact main true _ _
      | some y =>
        rw [hl] at hf hb
        dsimp only at hf hb
        rw [hb]
        rw [hf]
        exact sds_cons (sd_if (wq_q (wq_or (q := true) (pq_not (pq_val (pd_isT T.toTxt (pd_var 4)))) fun h1 => by cases h1)) (fun h3 => sds_cons (sd_ret pd_bl rfl)) (fun h3 => by cases h3))
theorem fn_reason_holds (T : Tx K mg) : Fn P w K mg base 9 "reason_holds" ["tellings", "offer", "clocks", "width", "thing"] [] (spD K R_reason_holds) := Fn.mk_ T m_reason_holds rfl g_reason_holds (fun _ _ _ _ _ _ us hl => match us, hl with | [_, _, _, _, _], _ => rfl) fun fd F => ok_reason_holds T F
theorem fk_reason_holds (T : Tx K mg) : FnK P w K mg base 9 "reason_holds" ["tellings", "offer", "clocks", "width", "thing"] ["thing", "width", "clocks", "offer", "tellings"] List.reverse (spD K R_reason_holds) := FnK.mk_ T m_reason_holds rfl g_reason_holds (fun _ _ _ _ _ _ ws hl => match ws, hl with | [_, _, _, _, _], _ => rfl) fun fd F => ok_reason_holds T F
end
end Gk
end

section
set_option linter.all false
set_option maxRecDepth 100000
namespace Gk
open PySem PySem.Spec PyProof.Rows L2 Evl
abbrev PC : Addr := 942
def pmeths : List (Str × Addr) := [("taken_back", 847), ("become", 854), ("tells", 862), ("sets", 867), ("calls_false", 872), ("stretch_at", 887), ("stretch_then", 894), ("standing", 899), ("clock_now", 906), ("error_by", 920), ("__len__", 927), ("__eq__", 934)]
structure Px (K : PySem.W.Frag) (mg : Str → Option Value) : Prop extends Tx K mg where
  cls : Cls K PC
  noat : ∀ x, x ∈ (["clocks", "told", "next_number", "past"] : List Str) → NoAttr K PC x
  meth : ∀ p ∈ pmeths, Meth K PC p.1 p.2
  makes : Mk K PC 840
/-- a method that only reads -/
def spM (K : PySem.W.Frag) (R : PSt → List PyData → Res → Prop) : Sp := fun vs H Q _ => ∃ a s us ds r, vs = .ref a :: us ∧ Ins K H a PC s ∧ Fts K H ds us ∧ R s ds r ∧ ∀ v H', Ex H H' → ResOk K H H' r v → Q v H'
structure FnM (P : Program) (w : World) (K : PySem.W.Frag) (mg : Str → Option Value) (base : Heap) (k : Nat) (m : Str) (ps : List Str) (dvs : List V) (sp : Sp) : Prop where
  ex : ∃ f fd ds, Meth K PC m f ∧ FnOk P w K mg base CX0 k f fd ps sp ∧ Binds K fd ps ds ∧ Vals dvs ds
section
variable {P : Program} {w : World} {K : PySem.W.Frag} {mg : Str → Option Value} {base : Heap}
theorem FnM.mk_ {k : Nat} {d : Fd} {ps : List Str} {sp : Sp} (T : Px K mg) (hd : d ∈ fds) (h0 : d.dv = .none) (hg : (d.name, d.f) ∈ pmeths)
    (hb : ∀ (kV doc pm : Value) (an : Option Addr) (cdv ct : Value) (us : List Value), us.length = ps.length → bindArgs (PySem.W.fnOf d.name d.qual (defArgs d.st) (defBody d.st) (defScope d.st) .none kV doc pm an cdv ct) ⟨us, []⟩ = pure (ps.zip us))
    (F : ∀ fd, FunD K d.name d.qual (defArgs d.st) (defBody d.st) (defScope d.st) [] [] d.f fd → FnOk P w K mg base CX0 k d.f fd ps sp) : FnM P w K mg base k d.name ps [] sp := by
  obtain ⟨fd, f⟩ := T.fn d hd h0
  exact ⟨d.f, fd, [], T.meth _ hg, F fd f, f.bindsN hb, .nil⟩
theorem FnM.mkD {k : Nat} {d : Fd} {ps : List Str} {sp : Sp} {vs : List V} {Ta : Addr} (n j : Nat) (T : Px K mg) (hd : d ∈ fds) (h0 : d.dv = .ref Ta) (ht : (Ta, vs) ∈ dfls) (hv : vs ≠ []) (hn : n + (vs.length - j) = ps.length) (hg : (d.name, d.f) ∈ pmeths)
    (hb : ∀ (Tb : Addr) (kV doc pm : Value) (an : Option Addr) (cdv ct : Value) (us its : List Value), us.length = n → its.length = vs.length →
      ∃ kk, bindArgs (PySem.W.fnOf d.name d.qual (defArgs d.st) (defBody d.st) (defScope d.st) (.ref Tb) kV doc pm an cdv ct) ⟨us, []⟩ = seqItems? (.ref Tb) >>= kk ∧ kk (some its.toArray) = pure (ps.zip (us ++ its.drop j)))
    (F : ∀ fd, FunD K d.name d.qual (defArgs d.st) (defBody d.st) (defScope d.st) vs [] d.f fd → FnOk P w K mg base CX0 k d.f fd ps sp) : FnM P w K mg base k d.name ps (vs.drop j) sp := by
  obtain ⟨fd, f⟩ := T.fnD d hd Ta vs h0 ht
  obtain ⟨ds, hV, hB⟩ := f.binds1 (ps := ps) n j hv hn hb
  exact ⟨d.f, fd, ds, T.meth _ hg, F fd f, hB, hV⟩
/-- a method called by keywords alone -/
structure FnMK (P : Program) (w : World) (K : PySem.W.Frag) (mg : Str → Option Value) (base : Heap) (k : Nat) (m : Str) (ps kn : List Str) (gD : List PyData → List PyData) (sp : Sp) : Prop where
  ex : ∃ f fd g gV, Meth K PC m f ∧ FnOk P w K mg base CX0 k f fd ps sp ∧ KBn K fd ps 1 kn g gV ∧ ∀ H a ds zs, ds.length = kn.length → Fts K H ds zs → ∃ us, gV [.ref a] zs = .ref a :: us ∧ Fts K H (gD ds) us
theorem FnMK.mk_ {k : Nat} {d : Fd} {ps kn : List Str} {sp : Sp} (T : Px K mg) (hd : d ∈ fds) (h0 : d.dv = .none) (hg : (d.name, d.f) ∈ pmeths)
    (hb : ∀ (kV doc pm : Value) (an : Option Addr) (cdv ct : Value) (us ws : List Value), us.length = 1 → ws.length = kn.length → bindArgs (PySem.W.fnOf d.name d.qual (defArgs d.st) (defBody d.st) (defScope d.st) .none kV doc pm an cdv ct) ⟨us, kn.zip ws⟩ = pure (ps.zip (us ++ ws.reverse)))
    (F : ∀ fd, FunD K d.name d.qual (defArgs d.st) (defBody d.st) (defScope d.st) [] [] d.f fd → FnOk P w K mg base CX0 k d.f fd ps sp) : FnMK P w K mg base k d.name ps kn List.reverse sp := by
  obtain ⟨fd, f⟩ := T.fn d hd h0
  refine ⟨d.f, fd, fun us ws => us ++ ws.reverse, fun vs zs => vs ++ zs.reverse, T.meth _ hg, F fd f, ⟨fun s us ws X hu hw => ?_, fun r1 r2 => r1.append r2.reverse⟩, fun H a ds zs _ h => ⟨_, rfl, h.rev⟩⟩
  obtain ⟨oc, od, dV, kV, doc, pm, an, cdv, ct, osl, rfl, lk, hcd, hD, hK⟩ := f.ex
  rcases hD with ⟨_, rfl⟩ | ⟨e, _⟩
  · exact .of_eq (hb kV doc pm an cdv ct us ws hu hw)
  · exact absurd rfl e
/-- with defaults; gV: where each goes -/
theorem FnMK.mkD {k : Nat} {d : Fd} {ps kn : List Str} {sp : Sp} {vs : List V} {Ta : Addr} (g : {α : Type} → List α → List α → List α → List α) (gD : List PyData → List PyData) (T : Px K mg) (hd : d ∈ fds) (h0 : d.dv = .ref Ta) (ht : (Ta, vs) ∈ dfls) (hv : vs ≠ []) (hg : (d.name, d.f) ∈ pmeths)
    (hrel : ∀ {r1 r2 r3 : List V} {u1 u2 u3 : List Value}, Vals r1 u1 → Vals r2 u2 → Vals r3 u3 → Vals (g r1 r2 r3) (g u1 u2 u3))
    (hb : ∀ (Tb : Addr) (kV doc pm : Value) (an : Option Addr) (cdv ct : Value) (us its ws : List Value), us.length = 1 → its.length = vs.length → ws.length = kn.length →
      ∃ kk, bindArgs (PySem.W.fnOf d.name d.qual (defArgs d.st) (defBody d.st) (defScope d.st) (.ref Tb) kV doc pm an cdv ct) ⟨us, kn.zip ws⟩ = seqItems? (.ref Tb) >>= kk ∧ kk (some its.toArray) = pure (ps.zip (g us its ws)))
    (hx : ∀ H a ds zs, ds.length = kn.length → Fts K H ds zs → ∃ us, g [V.ref a] vs zs = .ref a :: us ∧ Fts K H (gD ds) us) (F : ∀ fd, FunD K d.name d.qual (defArgs d.st) (defBody d.st) (defScope d.st) vs [] d.f fd → FnOk P w K mg base CX0 k d.f fd ps sp) : FnMK P w K mg base k d.name ps kn gD sp := by
  obtain ⟨fd, f⟩ := T.fnD d hd Ta vs h0 ht
  obtain ⟨its, KB⟩ := f.kbindsD (ps := ps) 1 kn g hv hrel hb
  exact ⟨d.f, fd, _, _, T.meth _ hg, F fd f, KB, hx⟩
theorem fn_bodyM {x qual : Str} {params : Arguments} {body : List Stmt} {scope : Scope} {dvs : List V} {kws : List (Str × V)} {f : Addr} {fd : FuncData} {N ps : List Str} {k : Nat} {R : PSt → List PyData → Res → Prop} (F : FunD K x qual params body scope dvs kws f fd) (S : FnScope N ps scope) (hlen : ∀ s ds r, R s ds r → ds.length + 1 = ps.length)
    (hbody : ∀ (cdv : Value) (A : Around) (outer : List Env) (s : Shared) (H : Hp) (E : XK), Room k (A.deeper (envOfC qual scope s.heap.objs.size f cdv)) → ∀ a st ds r, R st ds r →
      SDs (cxOf CX0 P w K mg base N qual scope f cdv A outer s H E).nox [] (.ins a PC st :: (ds.map .dat ++ List.replicate (N.length - ps.length) .no)) [] body (fun _ _ _ => r = .dat .none) (fun r' => r' = r)) : FnOk P w K mg base CX0 (k + 1) f fd ps (spM K R) := by
  refine FunD.ok F S (fun vs H Q E h => ?_) (fun cdv A outer s H vs Q E hr h => ?_)
  · obtain ⟨a, st, us, ds, r, rfl, _, hf, hR, _⟩ := h
    rw [List.length_cons, hf.len]
    exact hlen st ds r hR
  · obtain ⟨a, st, us, ds, r, rfl, hi, hf, hR, q⟩ := h
    have hb := hbody cdv A outer s H E hr a st ds r hR H
    refine ⟨_, hb.nox, Ex.refl H, fun a z => (nomatch z), ⟨?_, List.nodup_nil, fun p hp => (nomatch hp)⟩, fun M' G' D' t' H' e1 _ _ _ z => q _ H' e1 ?_, fun v H' r' e1 ok z => q v H' e1 ?_⟩
    · have hl : (V.ref a :: us).length = ps.length := by rw [List.length_cons, hf.len]; exact hlen st ds r hR
      show SlotsOk K H _ (L2.start N (V.ref a :: us))
      unfold L2.start
      rw [hl]
      exact ⟨_, _, rfl, ⟨rfl, hi⟩, slots_start _ hf⟩
    · rw [z]
      rfl
    · rw [← z]
      exact ok
end
section
variable {X : Cx} {e : Expr} {es : List Expr} {G : List Slot} {D : Lists} {d : PyData} {ds rs : List PyData} {ks : List Keyword} {pos p ap : Pos} {k n : Nat} {m x : Str} {ps kn : List Str} {gD : List PyData → List PyData} {R : PSt → List PyData → Res → Prop} {a : Addr} {s : PSt} {dvs : List V}
theorem EnvE.ins {K : PySem.W.Frag} {t : L2.St} {H : Hp} {i : Nat} (E : EnvE K G D t H) (h : G[i]? = some (.ins a PC s)) : t[i]? = some (some (.ref a)) ∧ Ins K H a PC s := by
  obtain ⟨y, e, e2, e3⟩ := E.slots.get h
  exact ⟨by rw [e, e2], e3⟩
/-- the instance that a slot holds -/
theorem pe_ins (i : Nat) (h : G[i]? = some (.ins a PC s)) (hN : X.N[i]? = some x) (hv : Vis X.env.scope x) (hd : (x == ("__debug__" : Str)) = false) (hcd : (x == ("__classdict__" : Str)) = false) : PE X (.Name x p) (fun t H Q => EnvE X.K G D t H ∧ Q (.ref a) H) :=
  PE.by_ (pe_var hN hv hd hcd) fun t H Q ⟨E, q⟩ => ⟨_, (E.ins h).1, q⟩
theorem pd_clocks (T : Px X.K X.mg) (i : Nat) (h : G[i]? = some (.ins a PC s) := by rfl) (hN : X.N[i]? = some x := by rfl) (hv : Vis X.env.scope x := by first | exact Or.inl rfl | exact Or.inr (Or.inl rfl) | exact Or.inr (Or.inr rfl)) (hd : (x == ("__debug__" : Str)) = false := by decide) (hcd : (x == ("__classdict__" : Str)) = false := by decide)
    (hb : attributeBase (.Name x p) "clocks" X.env (eval (.Name x p) X.env) = eval (.Name x p) X.env := by rfl) : PD X G D (.Attribute (.Name x p) "clocks" pos) s.cl :=
  PE.by_ (pe_fld (pe_ins i h hN hv hd hcd) hb) fun t H Q ⟨E, q⟩ => by
    obtain ⟨dx, v1, v2, h1, f1, f2⟩ := (E.ins h).2
    exact ⟨E, a, PC, dx, _, v1, rfl, h1, T.cls, T.noat _ (by decide), rfl, q v1 H (Ex.refl H) f1⟩
theorem pd_told (T : Px X.K X.mg) (i : Nat) (h : G[i]? = some (.ins a PC s) := by rfl) (hN : X.N[i]? = some x := by rfl) (hv : Vis X.env.scope x := by first | exact Or.inl rfl | exact Or.inr (Or.inl rfl) | exact Or.inr (Or.inr rfl)) (hd : (x == ("__debug__" : Str)) = false := by decide) (hcd : (x == ("__classdict__" : Str)) = false := by decide)
    (hb : attributeBase (.Name x p) "told" X.env (eval (.Name x p) X.env) = eval (.Name x p) X.env := by rfl) : PD X G D (.Attribute (.Name x p) "told" pos) s.td :=
  PE.by_ (pe_fld (pe_ins i h hN hv hd hcd) hb) fun t H Q ⟨E, q⟩ => by
    obtain ⟨dx, v1, v2, h1, f1, f2⟩ := (E.ins h).2
    exact ⟨E, a, PC, dx, _, v2, rfl, h1, T.cls, T.noat _ (by decide), rfl, q v2 H (Ex.refl H) f2⟩
theorem pd_next (T : Px X.K X.mg) (i : Nat) (h : G[i]? = some (.ins a PC s) := by rfl) (hN : X.N[i]? = some x := by rfl) (hv : Vis X.env.scope x := by first | exact Or.inl rfl | exact Or.inr (Or.inl rfl) | exact Or.inr (Or.inr rfl)) (hd : (x == ("__debug__" : Str)) = false := by decide) (hcd : (x == ("__classdict__" : Str)) = false := by decide)
    (hb : attributeBase (.Name x p) "next_number" X.env (eval (.Name x p) X.env) = eval (.Name x p) X.env := by rfl) : PD X G D (.Attribute (.Name x p) "next_number" pos) (.int s.n) :=
  PE.by_ (pe_fld (pe_ins i h hN hv hd hcd) hb) fun t H Q ⟨E, q⟩ => by
    obtain ⟨dx, v1, v2, h1, f1, f2⟩ := (E.ins h).2
    exact ⟨E, a, PC, dx, _, _, rfl, h1, T.cls, T.noat _ (by decide), rfl, q _ H (Ex.refl H) rfl⟩
theorem Ins.mono {K : PySem.W.Frag} {H H' : Hp} (t : TP K H H') (h : Ins K H a PC s) : Ins K H' a PC s := by
  obtain ⟨dx, v1, v2, h1, f1, f2⟩ := h
  exact ⟨dx, v1, v2, t.2 _ _ _ _ h1, f1.mono t, f2.mono t⟩
/-- self.m(e, ..), a datum -/
theorem pd_meth {pl : Sem Bool} (ex : List PyData) (T : Px X.K X.mg) (i : Nat) (F : FnM X.prog X.w X.K X.mg X.base k m ps dvs (spM X.K R)) (hx : ∀ H, Fts X.K H ex dvs) (hr : Room n X.A) (hk : k ≤ n) (ha : PDs X G D (e :: es) ds) (hR : R s (ds ++ ex) (.dat d))
    (h : G[i]? = some (.ins a PC s) := by rfl) (hN : X.N[i]? = some x := by rfl) (hv : Vis X.env.scope x := by first | exact Or.inl rfl | exact Or.inr (Or.inl rfl) | exact Or.inr (Or.inr rfl)) (hd : (x == ("__debug__" : Str)) = false := by decide) (hcd : (x == ("__classdict__" : Str)) = false := by decide)
    (hlk : ∀ v1 v2 v3 v4 : V, ([("clocks", v1), ("told", v2), ("next_number", v3), ("past", v4)] : List (Str × V)).lookup m = none := by intros; rfl)
    (hst : starEach (e :: es) X.env = (false, eval e X.env) :: starEach es X.env := by rfl) (hpl : (backTo pos (starEach es X.env)).any (·.1) = false := by rfl)
    (ht : eval (.Call (.Attribute (.Name x p) m ap) (e :: es) [] pos) X.env = (do
      let ov ← eval (.Name x p) X.env
      standAt ap.atName
      let (f, first) ← holding [ov] (getMethod ov m pl)
      callWith pos f first (backTo pos (starEach (e :: es) X.env)) (backToKw pos (keywordEach [] X.env))) := by rfl) :
    PD X G D (.Call (.Attribute (.Name x p) m ap) (e :: es) [] pos) d := by
  obtain ⟨f, fd, us, hM, hF, hB, hV⟩ := F.ex
  exact PE.by_ (pe_meth (pe_ins i h hN hv hd hcd) T.cls hM hF (hr.mono hk) hB hV pass0 ha hst hpl ht) fun t H Q ⟨E, q⟩ => by
    obtain ⟨dx, v1, v2, h1, _, _⟩ := (E.ins h).2
    exact ⟨E, a, dx, _, rfl, h1, hlk _ _ _ _, E, fun vs H1 e1 g => ⟨a, s, _, ds ++ ex, _, rfl, (E.ins h).2.mono (Ex.tp e1), g.app (hx H1), hR, fun v H2 e2 r => q v H2 (e1.trans e2) r⟩⟩
/-- self.m(), a new list -/
theorem pl_meth0 {pl : Sem Bool} (T : Px X.K X.mg) (i : Nat) (F : FnM X.prog X.w X.K X.mg X.base k m ps [] (spM X.K R)) (hr : Room n X.A) (hk : k ≤ n) (hR : R s [] (.lst rs))
    (h : G[i]? = some (.ins a PC s) := by rfl) (hN : X.N[i]? = some x := by rfl) (hv : Vis X.env.scope x := by first | exact Or.inl rfl | exact Or.inr (Or.inl rfl) | exact Or.inr (Or.inr rfl)) (hd : (x == ("__debug__" : Str)) = false := by decide) (hcd : (x == ("__classdict__" : Str)) = false := by decide)
    (hlk : ∀ v1 v2 v3 v4 : V, ([("clocks", v1), ("told", v2), ("next_number", v3), ("past", v4)] : List (Str × V)).lookup m = none := by intros; rfl)
    (ht : eval (.Call (.Attribute (.Name x p) m ap) [] [] pos) X.env = (do
      let ov ← eval (.Name x p) X.env
      standAt ap.atName
      let (f, first) ← holding [ov] (getMethod ov m pl)
      callWith pos f first (backTo pos (starEach [] X.env)) (backToKw pos (keywordEach [] X.env))) := by rfl) :
    PL X G D (.Call (.Attribute (.Name x p) m ap) [] [] pos) rs := by
  obtain ⟨f, fd, us, hM, hF, hB, hV⟩ := F.ex
  exact PE.by_ (pe_meth0 (pe_ins i h hN hv hd hcd) T.cls hM hF (hr.mono hk) hB hV pass0 ht) fun t H Q ⟨E, q⟩ => by
    obtain ⟨dx, v1, v2, h1, _, _⟩ := (E.ins h).2
    refine ⟨E, a, dx, _, rfl, h1, hlk _ _ _ _, a, s, _, [], _, rfl, (E.ins h).2, rfl, hR, fun v H2 e2 r => ?_⟩
    obtain ⟨l, ws, rfl, h0, h3, h4⟩ := r
    exact q l ws H2 h0 e2 h3 h4
/-- o.m(k = v, ..) -/
def tMethK (C : Addr) (m : Str) (kn : Nat) (sp : Sp) (gV : List V → List V → List V) (E : XK) (ta : TE) (tk : TA) : TE := fun σ H Q => ta σ H fun x H1 => ∃ a dx fs, x = .ref a ∧ H1 a = some (.ins C dx fs) ∧ fs.lookup m = none ∧
  tk σ H1 fun zs H2 => zs.length = kn ∧ sp (gV [x] zs) H2 Q E
theorem pe_methK {pl : Sem Bool} {CX : CXT} {C f : Addr} {fd : FuncData} {sp : Sp} {E : XK} {ta : TE} {tk : TA} {o : Expr} {g : List Value → List Value → List Value} {gV : List V → List V → List V} (he : PE X o ta) (c : Cls X.K C) (hm : Meth X.K C m f) (F : FnOk X.prog X.w X.K X.mg X.base CX k f fd ps sp) (hr : Room k X.A) (hb : KBn X.K fd ps 1 kn g gV) (hx : Passes CX X E) (hkw : PK X ks tk)
    (hall : (backToKw pos (keywordEach ks X.env)).all (·.1.isSome) = true) (hks : (backToKw pos (keywordEach ks X.env)).filterMap (·.1) = kn) (hpl : ((backTo pos (starEach [] X.env)).any (·.1) || (backToKw pos (keywordEach ks X.env)).any (·.1.isNone)) = false)
    (ht : eval (.Call (.Attribute o m ap) [] ks pos) X.env = (do
      let ov ← eval o X.env
      standAt ap.atName
      let (f, first) ← holding [ov] (getMethod ov m pl)
      callWith pos f first (backTo pos (starEach [] X.env)) (backToKw pos (keywordEach ks X.env)))) :
    PE X (.Call (.Attribute o m ap) [] ks pos) (tMethK C m kn.length sp gV E ta tk) := by
  refine ⟨fun pins s σ H Q I h => ?_⟩
  refine PySem.W.methodCall_KW (pl := pl) (thn (he.run pins s σ H _ I h) fun u s1 ⟨x, H1, I1, rx, a, dx, fs, ex, ea, l, q⟩ => ?_) ht
  subst ex
  obtain rfl : u = Value.ref a := rx
  refine getmeth_ok I1 ea c hm l ?_
  refine PySem.W.callWith_KW0 (first := [.ref a]) (h₀ := X.base) I.ok.mod.kin hm.kp hall ?_ hpl
  refine thn (hkw.run pos pins s1 σ H1 _ I1 q) fun ws s2 ⟨zs, H2, I2, rz, l2, q2⟩ => ⟨I2.kIn, ?_⟩
  rw [hks]
  exact run_fnN (us := [.ref a]) (vs := [.ref a]) F hr hb hx I2 (.cons rfl .nil) rz rfl l2 q2
theorem pd_methK {pl : Sem Bool} (T : Px X.K X.mg) (i : Nat) (F : FnMK X.prog X.w X.K X.mg X.base k m ps kn gD (spM X.K R)) (hr : Room n X.A) (hk : k ≤ n) (ha : PKd X G D ks ds) (hR : R s (gD ds) (.dat d)) (hl : ds.length = kn.length := by rfl)
    (h : G[i]? = some (.ins a PC s) := by rfl) (hN : X.N[i]? = some x := by rfl) (hv : Vis X.env.scope x := by first | exact Or.inl rfl | exact Or.inr (Or.inl rfl) | exact Or.inr (Or.inr rfl)) (hd : (x == ("__debug__" : Str)) = false := by decide) (hcd : (x == ("__classdict__" : Str)) = false := by decide)
    (hlk : ∀ v1 v2 v3 v4 : V, ([("clocks", v1), ("told", v2), ("next_number", v3), ("past", v4)] : List (Str × V)).lookup m = none := by intros; rfl)
    (hall : (backToKw pos (keywordEach ks X.env)).all (·.1.isSome) = true := by rfl) (hks : (backToKw pos (keywordEach ks X.env)).filterMap (·.1) = kn := by rfl) (hpl : ((backTo pos (starEach [] X.env)).any (·.1) || (backToKw pos (keywordEach ks X.env)).any (·.1.isNone)) = false := by rfl)
    (ht : eval (.Call (.Attribute (.Name x p) m ap) [] ks pos) X.env = (do
      let ov ← eval (.Name x p) X.env
      standAt ap.atName
      let (f, first) ← holding [ov] (getMethod ov m pl)
      callWith pos f first (backTo pos (starEach [] X.env)) (backToKw pos (keywordEach ks X.env))) := by rfl) :
    PD X G D (.Call (.Attribute (.Name x p) m ap) [] ks pos) d := by
  obtain ⟨f, fd, g, gV, hM, hF, hB, hV⟩ := F.ex
  exact PE.by_ (pe_methK (pe_ins i h hN hv hd hcd) T.cls hM hF (hr.mono hk) hB pass0 ha hall hks hpl ht) fun t H Q ⟨E, q⟩ => by
    obtain ⟨dx, v1, v2, h1, _, _⟩ := (E.ins h).2
    refine ⟨E, a, dx, _, rfl, h1, hlk _ _ _ _, E, fun vs H1 e1 z => ⟨by rw [z.len, hl], ?_⟩⟩
    obtain ⟨us, e3, z2⟩ := hV H1 a ds vs hl z
    rw [e3]
    exact ⟨a, s, us, gD ds, _, rfl, (E.ins h).2.mono (Ex.tp e1), z2, hR, fun v H2 e2 r => q v H2 (e1.trans e2) r⟩
end
end Gk
end

section
set_option linter.all false
set_option maxRecDepth 100000
namespace Gk
open PySem PySem.Spec PyProof.Rows L2 Evl
/-! ## what stands in a post -/
structure Clk8 (c : Clk) : Prop extends ClkOk c where
  g8 : Sk 8 c.gain
  t8 : ∀ s ∈ c.sets, Sk 8 s.2
theorem jumps_sk8 {m : Rat} : ∀ {sets : List (Rat × Rat)} {a : Rat} {k : Nat}, (∀ s ∈ sets, Sk 8 s.2) → Sk k a → Sk (k + 9 * sets.length) (jumpsF m sets a)
  | [], a, k, _, h => h
  | s :: sets, a, k, hs, h => by
    have h1 : Sk (k + 9) (if m < s.1 then a else a + s.2) := by
      split
      · exact h.mono (by omega)
      · exact (h.add (hs s (List.mem_cons_self ..))).mono (by omega)
    have := jumps_sk8 (m := m) (sets := sets) (fun q hq => hs q (List.mem_cons_of_mem _ hq)) h1
    refine Sk.mono this ?_
    rw [List.length_cons]
    omega
theorem drift8 {c : Clk} {m : Rat} (h : Clk8 c) (hm : Sk 8 m) : Sk 72 (driftD c m) := by
  have h1 := hm.mul h.g8
  have h2 := jumps_sk8 (m := m) (sets := c.sets) h.t8 (sk_zero (k := 1) (by decide))
  refine (h1.add h2).mono ?_
  have := h.len
  omega
structure Told where
  no : Int
  at_ : Rat
  one : Nat
  other : Nat
  low : Option Rat
  high : Option Rat
abbrev dTold (t : Told) : PyData := .tuple [.int t.no, dP t.at_, .int t.one, .int t.other, dO t.low, dO t.high]
structure ToldOk (t : Told) : Prop where
  one : t.one < 6
  other : t.other < 6
  ne : t.one ≠ t.other
  at8 : Sk 8 t.at_
  some_ : t.low ≠ none ∨ t.high ≠ none
  lo : ∀ a, t.low = some a → Sk 8 a
  hi : ∀ a, t.high = some a → Sk 8 a
  le : ∀ a b, t.low = some a → t.high = some b → a ≤ b
abbrev clkAt (cs : List Clk) (i : Nat) : Clk := cs.getD i ⟨0, []⟩
def byD (cs : List Clk) (t : Told) : Rat := driftD (clkAt cs t.other) t.at_ - driftD (clkAt cs t.one) t.at_
def movO (q : Option Rat) (b : Rat) : Option Rat := q.map fun x => x - b
def backT (cs : List Clk) (t : Told) : Tel := ⟨t.one, t.other, movO t.low (byD cs t), movO t.high (byD cs t)⟩
abbrev dClks (cs : List Clk) : PyData := .tuple (cs.map dClk)
abbrev dTolds (tl : List Told) : PyData := .tuple (tl.map dTold)
structure Clks (cs : List Clk) : Prop where
  len : cs.length = 6
  ok : ∀ i, Clk8 (clkAt cs i)
theorem by_sk {cs : List Clk} {t : Told} (h : Clks cs) (ht : ToldOk t) : Sk 145 (byD cs t) := (drift8 (h.ok _) ht.at8).sub (drift8 (h.ok _) ht.at8)
section
variable {P : Program} {w : World} {K : PySem.W.Frag} {mg : Str → Option Value} {base : Heap}
inductive R_are_gains : List PyData → Res → Prop
  | mk {gs : List Rat} (h : gs.length = 6) (hg : ∀ g ∈ gs, -12 ≤ g ∧ g ≤ 12 ∧ Sm g) (h0 : gs.getD 0 0 = 0) : R_are_gains [.tuple (gs.map dP)] (.dat (.bool true))
theorem sc_are_gains : FnScope ["thing", "one"] ["thing"] (defScope s_are_gains) := ⟨rfl, rfl, rfl, by decide +kernel, rfl, by decide +kernel, by decide +kernel⟩
theorem fn_are_gains (T : Tx K mg) : Fn P w K mg base 4 "are_gains" ["thing"] [] (spD K R_are_gains) := by
  refine Fn.mk_ T m_are_gains rfl g_are_gains (fun _ _ _ _ _ _ us hl => match us, hl with | [_], _ => rfl) fun fd F => fn_body F sc_are_gains (by rintro _ _ ⟨⟩; rfl) fun cdv A outer s H E hr ds r hR => ?_
  cases hR with
  | @mk gs h hg h0 =>
    refine sds_cons (sd_if (wq_q (wq_or (pq_not (pq_val (pd_isT T.toTxt (pd_var 0)))) fun h1 => (wq_or (pq_cmp (cd_neV (q := false) ?_ hr (pd_lenT (pd_var 0) T.len) (k_CLOCKS T))) fun h2 => (wq_or1 (pq_not (pq_val (pd_all rfl (pl_r (pl_lc (own := [("one", 1)]) (lc_bool dP gs (fun _ => true) (fun x hx => ⟨_, (fun _ _ _ _ _ => (gd_name 1 sc_are_gains.nd)), (fun _ _ _ _ _ => qs_nil), fun _ _ _ _ _ _ => (pd_call (fn_is_gain T) hr (by decide) (pds_cons (pd_var 1) pds_nil) (.mk (hg x hx).1 (hg x hx).2.1 (hg x hx).2.2))⟩) (by omega) (id_tup (pd_var 0))) sc_are_gains.nd (blkOk_by rfl))) T.all))))))) (fun h3 => ?_) (fun h3 => sds_nil ?_))
    · rw [List.length_map, h] <;> rfl
    · rw [all_true] at h3
      cases h3
    refine sds_cons (sd_ret (pd_cmp (cd_eqV (q := true) ?_ hr (pd_ix (pd_var 0) pd_int (at_map (n := 0) (z := 0) (by omega))) (k_NOUGHT T) sh_dP sh_dP)) rfl)
    rw [h0, eqv_dP] <;> rfl
inductive R_moved : List PyData → Res → Prop
  | mk {q : Option Rat} {b : Rat} (hb : Sm b) (hq : ∀ a, q = some a → Sm a) : R_moved [dO q, dP b] (.dat (dO (movO q b)))
theorem sc_moved : FnScope ["bound", "by"] ["bound", "by"] (defScope s_moved) := ⟨rfl, rfl, rfl, by decide +kernel, rfl, by decide +kernel, by decide +kernel⟩
theorem fn_moved (T : Tx K mg) : Fn P w K mg base 4 "moved" ["bound", "by"] [] (spD K R_moved) := by
  refine Fn.mk_ T m_moved rfl g_moved (fun _ _ _ _ _ _ us hl => match us, hl with | [_, _], _ => rfl) fun fd F => fn_body F sc_moved (by rintro _ _ ⟨⟩; rfl) fun cdv A outer s H E hr ds r hR => ?_
  cases hR with
  | @mk q b hb hq =>
    cases q with
    | none => exact sds_cons (sd_ret (pd_ifExp (pq_cmp (cd_isN (pd_var 0))) (fun h1 => pd_non) (fun h2 => by cases h2)) rfl)
    | some a => exact sds_cons (sd_ret (pd_ifExp (pq_cmp (cd_isN (pd_var 0))) (fun h1 => by cases h1) (fun h2 => (pd_call (fn_minus T) hr (by decide) (pds_cons (pd_var 0) (pds_cons (pd_var 1) pds_nil)) (.mk (hq a rfl) hb)))) rfl)
inductive R_taken_back : PSt → List PyData → Res → Prop
  | mk {s : PSt} {cs : List Clk} {tl : List Told} (hc : Clks cs) (ht : ∀ t ∈ tl, ToldOk t) (hl : tl.length ≤ 16) : R_taken_back s [dClks cs, dTolds tl] (.dat (dTels (tl.map (backT cs))))
theorem sc_Post_taken_back : FnScope ["self", "clocks", "told", "found", "number", "moment", "one", "other", "low", "high", "by"] ["self", "clocks", "told"] (defScope s_Post_taken_back) := ⟨rfl, rfl, rfl, by decide +kernel, rfl, by decide +kernel, by decide +kernel⟩
theorem fm_taken_back (T : Px K mg) : FnM P w K mg base 6 "taken_back" ["self", "clocks", "told"] [] (spM K R_taken_back) := by
  refine FnM.mk_ T m_Post_taken_back rfl (by decide) (fun _ _ _ _ _ _ us hl => match us, hl with | [_, _, _], _ => rfl) fun fd F => fn_bodyM F sc_Post_taken_back (by rintro _ _ _ ⟨⟩; rfl) fun cdv A outer s H E hr a st ds r hR => ?_
  cases hR with
  | @mk cs tl hc ht hl =>
    have T' := T.toTx
    refine sds_cons (sd_asgL 3 sc_Post_taken_back.nd (pl_lst pds_nil) fun l3 => ?_)
    refine sds_cons (sd_for (is := [4, 5, 6, 7, 8, 9]) dTold tl (fun i M G D => M = [l3] ∧ D = [(l3, ((tl.take i).map (backT cs)).map dTel)] ∧ ∃ a4 a5 a6 a7 a8 a9 a10, G = [.ins a PC st, .dat (dClks cs), .dat (dTolds tl), .ref l3, a4, a5, a6, a7, a8, a9, a10]) (id_tup (pd_var 2)) ?_ (fun i x M G D hx hP => ?_) (fun M G D hP => ?_))
    · exact ⟨rfl, rfl, _, _, _, _, _, _, _, rfl⟩
    · obtain ⟨rfl, rfl, a4, a5, a6, a7, a8, a9, a10, rfl⟩ := hP
      have tx := ht x (List.mem_of_getElem? hx)
      have c1 := hc.ok x.other
      have c2 := hc.ok x.one
      have d1 := drift8 c1 tx.at8
      have d2 := drift8 c2 tx.at8
      have sb := by_sk hc tx
      refine ⟨_, (gd_tup (gds_cons (gd_name 4 sc_Post_taken_back.nd) (gds_cons (gd_name 5 sc_Post_taken_back.nd) (gds_cons (gd_name 6 sc_Post_taken_back.nd) (gds_cons (gd_name 7 sc_Post_taken_back.nd) (gds_cons (gd_name 8 sc_Post_taken_back.nd) (gds_cons (gd_name 9 sc_Post_taken_back.nd) gds_nil))))))), ?_⟩
      refine sds_cons (sd_asg (d := dP (byD cs x)) 10 sc_Post_taken_back.nd (pd_call (fn_minus T') hr (by decide) (pds_cons (pd_call (fn_drift_by T') hr (by decide) (pds_cons (pd_ix (pd_var 1) (pd_var 7) (at_map (f := dClk) (z := ⟨0, []⟩) (by rw [hc.len]; exact tx.other))) (pds_cons (pd_var 5) pds_nil)) (.mk c1.toClkOk (tx.at8.mono (by decide)))) (pds_cons (pd_call (fn_drift_by T') hr (by decide) (pds_cons (pd_ix (pd_var 1) (pd_var 6) (at_map (f := dClk) (z := ⟨0, []⟩) (by rw [hc.len]; exact tx.one))) (pds_cons (pd_var 5) pds_nil)) (.mk c2.toClkOk (tx.at8.mono (by decide)))) pds_nil)) (.mk (d1.sm (by decide)) (d2.sm (by decide)))) ?_)
      refine sds_cons (sd_app (D1 := []) 3 (pd_tup (pds_cons (pd_var 6) (pds_cons (pd_var 7) (pds_cons (pd_call (fn_moved T') hr (by decide) (pds_cons (pd_var 8) (pds_cons (pd_var 10) pds_nil)) (.mk (sb.sm (by decide)) (fun q e => (tx.lo q e).sm (by decide)))) (pds_cons (pd_call (fn_moved T') hr (by decide) (pds_cons (pd_var 9) (pds_cons (pd_var 10) pds_nil)) (.mk (sb.sm (by decide)) (fun q e => (tx.hi q e).sm (by decide)))) pds_nil))))) ?_ ?_)
      · rw [List.length_map, List.length_map, List.length_take]
        omega
      · refine sds_nil ⟨rfl, ?_, _, _, _, _, _, _, _, rfl⟩
        rw [List.take_add_one, hx, List.map_append, List.map_append] <;> rfl
    · obtain ⟨rfl, rfl, a4, a5, a6, a7, a8, a9, a10, rfl⟩ := hP
      rw [List.take_length]
      exact sds_cons (sd_ret (pd_tupL (pr_var 3 (hp := List.mem_cons_self ..)) T.tuple) rfl)
end
/-- a post that stands so -/
structure PV where
  cs : List Clk
  tl : List Told
  n : Int
abbrev PV.st (v : PV) (l : Addr) : PSt := ⟨dClks v.cs, dTolds v.tl, v.n, l⟩
abbrev PV.tels (v : PV) : List Tel := v.tl.map (backT v.cs)
set_option exponentiation.threshold 10000
structure PVOk (D M : Nat) (v : PV) : Prop where
  cs : Clks v.cs
  tl : ∀ t ∈ v.tl, ToldOk t
  len : v.tl.length ≤ 10
  z : Sz D M
  mm : M < 2 ^ 400
  dd : D < 2 ^ 400
  tels : Tels D M v.tels
def addO (q : Option Rat) (b : Rat) : Option Rat := q.map fun x => x + b
def thenD (v : PV) (c : Nat) (m : Rat) : PyData := .tuple [dO (addO (lowD v.tels c 0) (driftD (clkAt v.cs c) m)), dO (addO (farD v.tels c 0) (driftD (clkAt v.cs c) m))]
theorem gr_sk {D M k : Nat} {q : Rat} (z : Sz D M) (h : Gr D M q) (hD : D < 2 ^ k) (hM : M < 2 ^ k) : Sk k q := by
  obtain ⟨n, rfl, hn⟩ := h.eq z.nz
  refine ⟨?_, ?_⟩
  · rw [Rat.num_mkRat, if_neg z.nz, Int.natAbs_ediv_of_dvd (Int.dvd_trans (Int.natCast_dvd_natCast.mpr (Nat.gcd_dvd_right D n.natAbs)) (Int.natAbs_dvd.mpr (Int.dvd_refl _)))]
    exact Nat.lt_of_le_of_lt (Nat.div_le_self _ _) (Nat.lt_of_le_of_lt hn hM)
  · rw [Rat.den_mkRat, if_neg z.nz]
    exact Nat.lt_of_le_of_lt (Nat.div_le_self _ _) hD
theorem end_sk {D M : Nat} {v : PV} (h : PVOk D M v) {q : Rat} (g : Gr D (192 * M) q) : Sk 500 q := by
  have m2 : 192 * M < 2 ^ 500 := by
    have h1 : 192 * M ≤ 2 ^ 100 * M := Nat.mul_le_mul (by decide) (Nat.le_refl _)
    have h2 : 2 ^ 100 * M < 2 ^ 100 * 2 ^ 400 := Nat.mul_lt_mul_of_pos_left h.mm (by decide)
    rw [← Nat.pow_add] at h2
    exact Nat.lt_of_le_of_lt h1 h2
  have d2 : D < 2 ^ 500 := Nat.lt_of_lt_of_le h.dd (Nat.pow_le_pow_right (by decide) (by decide))
  obtain ⟨n, rfl, hn⟩ := g.eq h.z.nz
  refine ⟨?_, ?_⟩
  · rw [Rat.num_mkRat, if_neg h.z.nz, Int.natAbs_ediv_of_dvd (Int.dvd_trans (Int.natCast_dvd_natCast.mpr (Nat.gcd_dvd_right D n.natAbs)) (Int.natAbs_dvd.mpr (Int.dvd_refl _)))]
    exact Nat.lt_of_le_of_lt (Nat.div_le_self _ _) (Nat.lt_of_le_of_lt hn m2)
  · rw [Rat.den_mkRat, if_neg h.z.nz]
    exact Nat.lt_of_le_of_lt (Nat.div_le_self _ _) d2
section
variable {P : Program} {w : World} {K : PySem.W.Frag} {mg : Str → Option Value} {base : Heap}
inductive R_stretch_then : PSt → List PyData → Res → Prop
  | mk {D M : Nat} {v : PV} {l : Addr} {c : Nat} {m : Rat} (h : PVOk D M v) (hc : c < 6) (hm : Sk 8 m) : R_stretch_then (v.st l) [.int c, dP m] (.dat (thenD v c m))
theorem sc_Post_stretch_then : FnScope ["self", "clock", "moment", "low", "high", "by"] ["self", "clock", "moment"] (defScope s_Post_stretch_then) := ⟨rfl, rfl, rfl, by decide +kernel, rfl, by decide +kernel, by decide +kernel⟩
theorem fm_stretch_then (T : Px K mg) : FnM P w K mg base 7 "stretch_then" ["self", "clock", "moment"] [] (spM K R_stretch_then) := by
  refine FnM.mk_ T m_Post_stretch_then rfl (by decide) (fun _ _ _ _ _ _ us hl => match us, hl with | [_, _, _], _ => rfl) fun fd F => fn_bodyM F sc_Post_stretch_then (by rintro _ _ _ ⟨⟩; rfl) fun cdv A outer s H E hr a st ds r hR => ?_
  cases hR with
  | @mk D0 M0 v l c m h hc hm =>
    have T' := T.toTx
    have d1 := drift8 (h.cs.ok c) hm
    refine sds_cons (sd_asgT (pd_call (fn_stretch_by T') hr (by decide) (pds_cons (pd_meth (s := v.st l) [] T 0 (fm_taken_back T) (fun _ => rfl) hr (by decide) (pds_cons (pd_clocks (s := v.st l) T 0) (pds_cons (pd_told (s := v.st l) T 0) pds_nil)) (.mk h.cs h.tl (by have := h.len; omega))) (pds_cons (pd_var 1) (pds_cons pd_int pds_nil))) (.mk (o := 0) h.z h.tels hc (by decide))) (gd_tup (gds_cons (gd_name 3 sc_Post_stretch_then.nd) (gds_cons (gd_name 4 sc_Post_stretch_then.nd) gds_nil))) ?_)
    refine sds_cons (sd_asg (d := dP (driftD (clkAt v.cs c) m)) 5 sc_Post_stretch_then.nd (pd_call (fn_drift_by T') hr (by decide) (pds_cons (pd_ix (pd_clocks (s := v.st l) T 0) (pd_var 1) (at_map (f := dClk) (z := ⟨0, []⟩) (by rw [h.cs.len]; exact hc))) (pds_cons (pd_var 2) pds_nil)) (.mk (h.cs.ok c).toClkOk (hm.mono (by decide)))) ?_)
    have hadd : ∀ (X : Cx) (G : List Slot) (D : Lists), True := fun _ _ _ => True.intro
    unfold thenD
    cases hl : lowD v.tels c 0 with
    | none =>
      cases hh : farD v.tels c 0 with
      | none => exact sds_cons (sd_ret (pd_tup (pds_cons (pd_ifExp (pq_cmp (cd_isN (pd_var 3))) (fun h1 => pd_non) (fun h2 => by cases h2)) (pds_cons (pd_ifExp (pq_cmp (cd_isN (pd_var 4))) (fun h3 => pd_non) (fun h4 => by cases h4)) pds_nil))) rfl)
      | some q =>
        have sq := end_sk h (far_gr h.tels (by decide) hh)
        exact sds_cons (sd_ret (pd_tup (pds_cons (pd_ifExp (pq_cmp (cd_isN (pd_var 3))) (fun h1 => pd_non) (fun h2 => by cases h2)) (pds_cons (pd_ifExp (pq_cmp (cd_isN (pd_var 4))) (fun h3 => by cases h3) (fun h4 => (pd_call (fn_plus T') hr (by decide) (pds_cons (pd_var 4) (pds_cons (pd_var 5) pds_nil)) (.mk (sq.sm (by decide)) (d1.sm (by decide)))))) pds_nil))) rfl)
    | some q2 =>
      have sq2 := end_sk h (low_gr2 h.tels hc hl)
      cases hh : farD v.tels c 0 with
      | none => exact sds_cons (sd_ret (pd_tup (pds_cons (pd_ifExp (pq_cmp (cd_isN (pd_var 3))) (fun h1 => by cases h1) (fun h2 => (pd_call (fn_plus T') hr (by decide) (pds_cons (pd_var 3) (pds_cons (pd_var 5) pds_nil)) (.mk (sq2.sm (by decide)) (d1.sm (by decide)))))) (pds_cons (pd_ifExp (pq_cmp (cd_isN (pd_var 4))) (fun h3 => pd_non) (fun h4 => by cases h4)) pds_nil))) rfl)
      | some q =>
        have sq := end_sk h (far_gr h.tels (by decide) hh)
        exact sds_cons (sd_ret (pd_tup (pds_cons (pd_ifExp (pq_cmp (cd_isN (pd_var 3))) (fun h1 => by cases h1) (fun h2 => (pd_call (fn_plus T') hr (by decide) (pds_cons (pd_var 3) (pds_cons (pd_var 5) pds_nil)) (.mk (sq2.sm (by decide)) (d1.sm (by decide)))))) (pds_cons (pd_ifExp (pq_cmp (cd_isN (pd_var 4))) (fun h3 => by cases h3) (fun h4 => (pd_call (fn_plus T') hr (by decide) (pds_cons (pd_var 4) (pds_cons (pd_var 5) pds_nil)) (.mk (sq.sm (by decide)) (d1.sm (by decide)))))) pds_nil))) rfl)
end
end Gk
end

section
set_option linter.all false
set_option maxRecDepth 100000
namespace Gk
open PySem PySem.Spec PyProof.Rows L2 Evl
def ifC : Stmt → Expr
  | .If c _ _ _ => c
  | _ => .Constant .none 0 default
def errC : Expr := match (defBody d_Post_error_by.st).drop 5 with
  | s :: _ => ifC s
  | [] => .Constant .none 0 default
def errE (m h : Rat) : Rat := h - shownD ⟨0, []⟩ m 0
def ltO : Option Rat → Rat → Bool
  | none, _ => false
  | some l, e => decide (e < l)
def gtO : Option Rat → Rat → Bool
  | none, _ => false
  | some l, e => decide (l < e)
def errD (v : PV) (c : Nat) (m h : Rat) : PyData := if (ltO (addO (lowD v.tels c 0) (driftD (clkAt v.cs c) m)) (errE m h) || gtO (addO (farD v.tels c 0) (driftD (clkAt v.cs c) m)) (errE m h)) = true then .str "no" else dP (errE m h)
theorem clk0 : Clk8 ⟨0, []⟩ := ⟨⟨by decide, by decide, ⟨by decide, by decide⟩, by decide, fun s hs => (by cases hs), rfl⟩, ⟨by decide, by decide⟩, fun s hs => (by cases hs)⟩
theorem errE_sk {m h : Rat} (hm : Sk 8 m) (hh : Sk 8 h) : Sk 200 (errE m h) := by
  have h1 : Sk 60 24 := sk_24
  have h2 := (h1.mul hm).add (sk_zero (k := 1) (by decide))
  have h3 := h2.add (drift8 clk0 hm)
  exact (hh.sub h3).mono (by decide)
section
variable {P : Program} {w : World} {K : PySem.W.Frag} {mg : Str → Option Value} {base : Heap}
inductive R_stretch_at : PSt → List PyData → Res → Prop
  | mk {D M : Nat} {v : PV} {l : Addr} {c : Nat} {m : Option Rat} (h : PVOk D M v) (hc : c < 6) (hm : Sk 8 (m.getD 0)) (h0 : 0 ≤ m.getD 0) : R_stretch_at (v.st l) [.int c, dO m] (.dat (thenD v c (m.getD 0)))
theorem sc_Post_stretch_at : FnScope ["self", "clock", "moment"] ["self", "clock", "moment"] (defScope s_Post_stretch_at) := ⟨rfl, rfl, rfl, by decide +kernel, rfl, by decide +kernel, by decide +kernel⟩
theorem ok_stretch_at (T : Px K mg) {dvs : List V} {fd : FuncData} (F : FunD K d_Post_stretch_at.name d_Post_stretch_at.qual (defArgs d_Post_stretch_at.st) (defBody d_Post_stretch_at.st) (defScope d_Post_stretch_at.st) dvs [] d_Post_stretch_at.f fd) : FnOk P w K mg base CX0 8 d_Post_stretch_at.f fd ["self", "clock", "moment"] (spM K R_stretch_at) := by
  refine fn_bodyM F sc_Post_stretch_at (by rintro _ _ _ ⟨⟩; rfl) fun cdv A outer s H E hr a st ds r hR => ?_
  cases hR with
  | @mk D0 M0 v l c m h hc hm h0 =>
    have T' := T.toTx
    refine sds_cons (sd_expr (pd_call (fn_need_clock_number T') hr (by decide) (pds_cons (pd_var 1) pds_nil) (.mk hc)) ?_)
    cases m with
    | none =>
      refine sds_cons (sd_if (pq_cmp (cd_notN (pd_var 2))) (fun h1 => by cases h1) (fun h1 => sds_nil ?_))
      exact sds_cons (sd_ret (pd_meth (s := v.st l) (ds := [.int c, dP 0]) [] T 0 (fm_stretch_then T) (fun _ => rfl) hr (by decide) (pds_cons (pd_var 1) (pds_cons (pd_ifExp (pq_cmp (cd_isN (pd_var 2))) (fun _ => k_NOUGHT T') (fun h2 => by cases h2)) pds_nil)) (.mk h hc hm)) rfl)
    | some q =>
      refine sds_cons (sd_if (pq_cmp (cd_notN (pd_var 2))) (fun h1 => ?_) (fun h1 => by cases h1))
      refine sds_cons (sd_expr (pd_call (fn_need_moment T') hr (by decide) (pds_cons (pd_var 2) pds_nil) (.mk h0)) (sds_nil ?_))
      exact sds_cons (sd_ret (pd_meth (s := v.st l) (ds := [.int c, dP q]) [] T 0 (fm_stretch_then T) (fun _ => rfl) hr (by decide) (pds_cons (pd_var 1) (pds_cons (pd_ifExp (pq_cmp (cd_isN (pd_var 2))) (fun h1 => by cases h1) (fun h2 => pd_var 2)) pds_nil)) (.mk h hc hm)) rfl)
theorem fm_stretch_at (T : Px K mg) : FnM P w K mg base 8 "stretch_at" ["self", "clock", "moment"] [] (spM K R_stretch_at) := FnM.mkD (vs := [.non]) 3 1 T m_Post_stretch_at rfl (List.mem_of_getElem? (i := 7) rfl) (by simp) rfl (by decide) (fun _ _ _ _ _ _ _ us its h1 h2 => match us, its, h1, h2 with | [_, _, _], [_], _, _ => ⟨_, rfl, rfl⟩) fun fd F => ok_stretch_at T F
theorem fmk_stretch_at (T : Px K mg) : FnMK P w K mg base 8 "stretch_at" ["self", "clock", "moment"] ["moment", "clock"] List.reverse (spM K R_stretch_at) := FnMK.mkD (vs := [.non]) (fun us its ws => us ++ ws.reverse) List.reverse T m_Post_stretch_at rfl (List.mem_of_getElem? (i := 7) rfl) (by simp) (by decide) (fun r1 r2 r3 => r1.append r3.reverse) (fun _ _ _ _ _ _ _ us its ws h1 h2 h3 => match us, its, ws, h1, h2, h3 with | [_], [_], [_, _], _, _, _ => ⟨_, rfl, rfl⟩) (fun H a ds zs _ h => ⟨_, rfl, h.rev⟩) fun fd F => ok_stretch_at T F
theorem fmk0_stretch_at (T : Px K mg) : FnMK P w K mg base 8 "stretch_at" ["self", "clock", "moment"] ["clock"] (fun ds => ds ++ [.none]) (spM K R_stretch_at) := FnMK.mkD (vs := [.non]) (fun us its ws => us ++ (ws ++ its)) (fun ds => ds ++ [.none]) T m_Post_stretch_at rfl (List.mem_of_getElem? (i := 7) rfl) (by simp) (by decide) (fun r1 r2 r3 => r1.append (r3.append r2)) (fun _ _ _ _ _ _ _ us its ws h1 h2 h3 => match us, its, ws, h1, h2, h3 with | [_], [_], [_], _, _, _ => ⟨_, rfl, rfl⟩) (fun H a ds zs _ h => ⟨_, rfl, h.app (Fts.one (d := PyData.none) rfl)⟩) fun fd F => ok_stretch_at T F
inductive R_clock_now : PSt → List PyData → Res → Prop
  | mk {v : PV} {l : Addr} {c : Nat} (h : v.cs.length = 6) (hc : c < 6) : R_clock_now (v.st l) [.int c] (.dat (dClk (clkAt v.cs c)))
theorem sc_Post_clock_now : FnScope ["self", "clock"] ["self", "clock"] (defScope s_Post_clock_now) := ⟨rfl, rfl, rfl, by decide +kernel, rfl, by decide +kernel, by decide +kernel⟩
theorem ok_clock_now (T : Px K mg) {dvs : List V} {fd : FuncData} (F : FunD K d_Post_clock_now.name d_Post_clock_now.qual (defArgs d_Post_clock_now.st) (defBody d_Post_clock_now.st) (defScope d_Post_clock_now.st) dvs [] d_Post_clock_now.f fd) : FnOk P w K mg base CX0 5 d_Post_clock_now.f fd ["self", "clock"] (spM K R_clock_now) := by
  refine fn_bodyM F sc_Post_clock_now (by rintro _ _ _ ⟨⟩; rfl) fun cdv A outer s H E hr a st ds r hR => ?_
  cases hR with
  | @mk v l c h hc =>
    refine sds_cons (sd_expr (pd_call (fn_need_clock_number T.toTx) hr (by decide) (pds_cons (pd_var 1) pds_nil) (.mk hc)) ?_)
    exact sds_cons (sd_ret (pd_ix (pd_clocks (s := v.st l) T 0) (pd_var 1) (at_map (f := dClk) (z := ⟨0, []⟩) (by rw [h]; exact hc))) rfl)
theorem fm_clock_now (T : Px K mg) : FnM P w K mg base 5 "clock_now" ["self", "clock"] [] (spM K R_clock_now) := FnM.mk_ T m_Post_clock_now rfl (by decide) (fun _ _ _ _ _ _ us hl => match us, hl with | [_, _], _ => rfl) fun fd F => ok_clock_now T F
theorem fmk_clock_now (T : Px K mg) : FnMK P w K mg base 5 "clock_now" ["self", "clock"] ["clock"] List.reverse (spM K R_clock_now) := FnMK.mk_ T m_Post_clock_now rfl (by decide) (fun _ _ _ _ _ _ us ws h1 h2 => match us, ws, h1, h2 with | [_], [_], _, _ => rfl) fun fd F => ok_clock_now T F
inductive R_error_by : PSt → List PyData → Res → Prop
  | mk {D M : Nat} {v : PV} {l : Addr} {c : Nat} {m q : Rat} (h : PVOk D M v) (hc : c < 6) (hm : Sk 8 m) (h0 : 0 ≤ m) (hq : Sk 8 q) : R_error_by (v.st l) [.int c, dP m, dP q] (.dat (errD v c m q))
theorem sc_Post_error_by : FnScope ["self", "clock", "moment", "hour", "error", "low", "high"] ["self", "clock", "moment", "hour"] (defScope s_Post_error_by) := ⟨rfl, rfl, rfl, by decide +kernel, rfl, by decide +kernel, by decide +kernel⟩
theorem add_sk {D M : Nat} {v : PV} (h : PVOk D M v) {c : Nat} (hc : c < 6) {m : Rat} (hm : Sk 8 m) : (∀ q, addO (lowD v.tels c 0) (driftD (clkAt v.cs c) m) = some q → Sk 600 q) ∧ ∀ q, addO (farD v.tels c 0) (driftD (clkAt v.cs c) m) = some q → Sk 600 q := by
  have d1 := drift8 (h.cs.ok c) hm
  refine ⟨fun q e => ?_, fun q e => ?_⟩ <;> unfold addO at e <;> obtain ⟨x, hx, rfl⟩ := Option.map_eq_some_iff.mp e
  · exact ((end_sk h (low_gr2 h.tels hc hx)).add d1).mono (by decide)
  · exact ((end_sk h (far_gr h.tels (by decide) hx)).add d1).mono (by decide)
set_option maxHeartbeats 1000000 in
theorem ok_error_by (T : Px K mg) {dvs : List V} {fd : FuncData} (F : FunD K d_Post_error_by.name d_Post_error_by.qual (defArgs d_Post_error_by.st) (defBody d_Post_error_by.st) (defScope d_Post_error_by.st) dvs [] d_Post_error_by.f fd) : FnOk P w K mg base CX0 8 d_Post_error_by.f fd ["self", "clock", "moment", "hour"] (spM K R_error_by) := by
  refine fn_bodyM F sc_Post_error_by (by rintro _ _ _ ⟨⟩; rfl) fun cdv A outer s H E hr a st ds r hR => ?_
  cases hR with
  | @mk D0 M0 v l c m q h hc hm h0 hq =>
    have T' := T.toTx
    have se := errE_sk hm hq
    obtain ⟨s1, s2⟩ := add_sk h hc hm
    have sz : Sk 60 0 := sk_zero (by decide)
    have ss : Sk 200 (shownD ⟨0, []⟩ m 0) := by
      have h2 := (sk_24.mul hm).add (sk_zero (k := 1) (by decide))
      exact (h2.add (drift8 clk0 hm)).mono (by decide)
    refine sds_cons (sd_expr (pd_call (fn_need_clock_number T') hr (by decide) (pds_cons (pd_var 1) pds_nil) (.mk hc)) ?_)
    refine sds_cons (sd_expr (pd_call (fn_need_moment T') hr (by decide) (pds_cons (pd_var 2) pds_nil) (.mk h0)) ?_)
    refine sds_cons (sd_if (pq_not (pq_val (pd_call (fn_is_part T') hr (by decide) (pds_cons (pd_var 3) pds_nil) .mk))) (fun h1 => by cases h1) (fun _ => sds_nil ?_))
    refine sds_cons (sd_asg (d := dP (errE m q)) 4 sc_Post_error_by.nd (pd_call (fn_minus T') hr (by decide) (pds_cons (pd_var 3) (pds_cons (pd_call (fn_shown_by T') hr (by decide) (pds_cons (pd_tup (pds_cons (pd_tup (pds_cons pd_int (pds_cons pd_int pds_nil))) (pds_cons (pd_tup pds_nil) pds_nil))) (pds_cons (pd_var 2) (pds_cons (k_NOUGHT T') pds_nil))) (.mk (c := ⟨0, []⟩) clk0.toClkOk (hm.mono (by decide)) sz)) pds_nil)) (.mk (hq.sm (by decide)) (ss.sm (by decide)))) ?_)
    refine sds_cons (sd_asgT (pd_meth (s := v.st l) (ds := [.int c, dP m]) [] T 0 (fm_stretch_then T) (fun _ => rfl) hr (by decide) (pds_cons (pd_var 1) (pds_cons (pd_var 2) pds_nil)) (.mk h hc hm)) (gd_tup (gds_cons (gd_name 5 sc_Post_error_by.nd) (gds_cons (gd_name 6 sc_Post_error_by.nd) gds_nil))) ?_)
    unfold errD
    generalize addO (lowD v.tels c 0) (driftD (clkAt v.cs c) m) = lo at s1
    generalize addO (farD v.tels c 0) (driftD (clkAt v.cs c) m) = hi at s2
    generalize errE m q = er at se
    have last : ∀ (b : Bool), b = (ltO lo er || gtO hi er) → PQ (cxOf CX0 P w K mg base ["self", "clock", "moment", "hour", "error", "low", "high"] d_Post_error_by.qual (defScope d_Post_error_by.st) d_Post_error_by.f cdv A outer s H E).nox [.ins a PC (v.st l), .dat (.int c), .dat (dP m), .dat (dP q), .dat (dP er), .dat (dO lo), .dat (dO hi)] [] errC b := fun b hb => by
      rw [hb]
      cases lo with
      | none =>
        cases hi with
        | none => exact (wq_q (wq_or (p := false) (wq_q (wq_and (p := false) (q := true) (pq_cmp (cd_notN (d := .none) (pd_var 5))) fun h2 => by cases h2)) fun h3 => (wq_or1 (wq_q (wq_and (p := false) (q := true) (pq_cmp (cd_notN (d := .none) (pd_var 6))) fun h4 => by cases h4)))))
        | some y => exact (wq_q (wq_or (p := false) (wq_q (wq_and (p := false) (q := true) (pq_cmp (cd_notN (d := .none) (pd_var 5))) fun h2 => by cases h2)) fun h3 => (wq_or1 (wq_q (wq_and (p := true) (pq_cmp (cd_notN (d := dP y) (pd_var 6))) fun h4 => (wq_and1 (pq_val (pd_call (fn_below T') hr (by decide) (pds_cons (pd_var 6) (pds_cons (pd_var 4) pds_nil)) (.mk ((s2 y rfl).sm (by decide)) (se.sm (by decide)))))))))))
      | some x =>
        cases hi with
        | none => exact (wq_q (wq_or (wq_q (wq_and (p := true) (pq_cmp (cd_notN (d := dP x) (pd_var 5))) fun h2 => (wq_and1 (pq_val (pd_call (fn_below T') hr (by decide) (pds_cons (pd_var 4) (pds_cons (pd_var 5) pds_nil)) (.mk (se.sm (by decide)) ((s1 x rfl).sm (by decide)))))))) fun h3 => (wq_or1 (wq_q (wq_and (p := false) (q := true) (pq_cmp (cd_notN (d := .none) (pd_var 6))) fun h4 => by cases h4)))))
        | some y => exact (wq_q (wq_or (wq_q (wq_and (p := true) (pq_cmp (cd_notN (d := dP x) (pd_var 5))) fun h2 => (wq_and1 (pq_val (pd_call (fn_below T') hr (by decide) (pds_cons (pd_var 4) (pds_cons (pd_var 5) pds_nil)) (.mk (se.sm (by decide)) ((s1 x rfl).sm (by decide)))))))) fun h3 => (wq_or1 (wq_q (wq_and (p := true) (pq_cmp (cd_notN (d := dP y) (pd_var 6))) fun h4 => (wq_and1 (pq_val (pd_call (fn_below T') hr (by decide) (pds_cons (pd_var 6) (pds_cons (pd_var 4) pds_nil)) (.mk ((s2 y rfl).sm (by decide)) (se.sm (by decide)))))))))))
    refine sds_cons (sd_if (last _ rfl) (fun h5 => ?_) (fun h5 => sds_nil ?_))
    · rw [if_pos h5]
      exact sds_cons (sd_ret pd_str rfl)
    · rw [if_neg (fun z => absurd (h5.symm.trans z) Bool.false_ne_true)]
      exact sds_cons (sd_ret (pd_var 4) rfl)
theorem fm_error_by (T : Px K mg) : FnM P w K mg base 8 "error_by" ["self", "clock", "moment", "hour"] [] (spM K R_error_by) := FnM.mk_ T m_Post_error_by rfl (by decide) (fun _ _ _ _ _ _ us hl => match us, hl with | [_, _, _, _], _ => rfl) fun fd F => ok_error_by T F
theorem fmk_error_by (T : Px K mg) : FnMK P w K mg base 8 "error_by" ["self", "clock", "moment", "hour"] ["hour", "moment", "clock"] List.reverse (spM K R_error_by) := FnMK.mk_ T m_Post_error_by rfl (by decide) (fun _ _ _ _ _ _ us ws h1 h2 => match us, ws, h1, h2 with | [_], [_, _, _], _, _ => rfl) fun fd F => ok_error_by T F
end
end Gk
end

section
set_option linter.all false
set_option maxRecDepth 100000
namespace Gk
open PySem PySem.Spec PyProof.Rows L2 Evl
/-! ## what changes a post -/
def Stp (A : List Addr) (H H' : Hp) : Prop := ∀ b o, H b = some o → b ∉ A → H' b = some o
theorem Stp.refl (A : List Addr) (H : Hp) : Stp A H H := fun _ _ h _ => h
theorem Stp.trans {A : List Addr} {H H1 H2 : Hp} (h : Stp A H H1) (k : Stp A H1 H2) : Stp A H H2 := fun b o e n => k b o (h b o e n) n
theorem Stp.ex {A : List Addr} {H H' : Hp} (h : Ex H H') : Stp A H H' := fun b o e _ => h b o e
theorem Stp.upd {A : List Addr} {H : Hp} {a : Addr} {o : HO} (h : a ∈ A) : Stp A H (L2.upd H a o) := fun b o' e n => by
  rw [upd_ne fun z => n (by rw [z]; exact h)]
  exact e
section
variable {K : PySem.W.Frag} {H H' : Hp}
def SqK (K : PySem.W.Frag) (H H' : Hp) : Prop := ∀ a xs, SqT K H a xs → SqT K H' a xs
mutual
theorem Ft.monoT (t : SqK K H H') : ∀ {d : PyData} {v : V}, Ft K H d v → Ft K H' d v
  | .none, _, h => h
  | .bool _, _, h => h
  | .int _, _, h => h
  | .str _, _, h => h
  | .tuple _, _, ⟨a, xs, e, s, q⟩ => ⟨a, xs, e, t _ _ s, Fts.monoT t q⟩
  | .list _, _, h => h.elim
  | .dict _, _, h => h.elim
theorem Fts.monoT (t : SqK K H H') : ∀ {ds : List PyData} {vs : List V}, Fts K H ds vs → Fts K H' ds vs
  | [], _, h => h
  | _ :: _, _, ⟨v, vs, e, q, r⟩ => ⟨v, vs, e, Ft.monoT t q, Fts.monoT t r⟩
end
/-- the address of an instance or a list -/
def Mut (H : Hp) (a : Addr) : Prop := (∃ C dx fs, H a = some (.ins C dx fs)) ∨ ∃ xs, H a = some (.lst xs)
theorem sq_stp {A : List Addr} (h : Stp A H H') (hA : ∀ x ∈ A, Mut H x) : SqK K H H' := fun a xs q => by
  have key : ∀ o, H a = some o → (∀ C dx fs, o ≠ .ins C dx fs) → (∀ xs, o ≠ .lst xs) → H' a = some o := fun o e n1 n2 => h a o e fun m => by
    rcases hA a m with ⟨C, dx, fs, e2⟩ | ⟨ys, e2⟩
    · rw [e] at e2
      exact n1 C dx fs (Option.some.inj e2)
    · rw [e] at e2
      exact n2 ys (Option.some.inj e2)
  rcases q with (q | ⟨o, q⟩) | q
  · exact .inl (.inl (key _ q (by intro _ _ _ z; cases z) (by intro _ z; cases z)))
  · exact .inl (.inr ⟨o, key _ q (by intro _ _ _ z; cases z) (by intro _ z; cases z)⟩)
  · exact .inr q
/-- none of the slots holds the instance a -/
def apartL (a : Addr) : List Slot → Prop
  | [] => True
  | .ins b _ _ :: G => b ≠ a ∧ apartL a G
  | .no :: G => apartL a G
  | .dat _ :: G => apartL a G
  | .ref _ :: G => apartL a G
theorem SlotsOk.monoA {a l : Addr} (h : Stp [a, l] H H') (hs : SqK K H H') (hl : ∃ xs, H l = some (.lst xs)) : ∀ {G : List Slot} {t : L2.St}, apartL a G → SlotsOk K H G t → SlotsOk K H' G t
  | [], _, _, _ => True.intro
  | .ins b C z :: G, _, ap, ⟨x, r, e, ⟨q, dx, v1, v2, h1, h2, h3⟩, w⟩ => by
    refine ⟨x, r, e, ⟨q, dx, v1, v2, h b _ h1 fun m => ?_, h2.monoT hs, h3.monoT hs⟩, SlotsOk.monoA h hs hl ap.2 w⟩
    rcases List.mem_cons.mp m with m | m
    · exact ap.1 m
    · rw [List.mem_singleton.mp m] at h1
      obtain ⟨xs, e2⟩ := hl
      rw [e2] at h1
      cases h1
  | .no :: G, _, ap, ⟨x, r, e, _, w⟩ => ⟨x, r, e, True.intro, SlotsOk.monoA h hs hl ap w⟩
  | .dat d :: G, _, ap, ⟨x, r, e, ⟨v, q1, q2⟩, w⟩ => ⟨x, r, e, ⟨v, q1, q2.monoT hs⟩, SlotsOk.monoA h hs hl ap w⟩
  | .ref b :: G, _, ap, ⟨x, r, e, q, w⟩ => ⟨x, r, e, q, SlotsOk.monoA h hs hl ap w⟩
theorem slots_app : ∀ {G1 G2 : List Slot} {t : L2.St}, SlotsOk K H (G1 ++ G2) t → ∃ t1 t2, t = t1 ++ t2 ∧ t1.length = G1.length ∧ SlotsOk K H G1 t1 ∧ SlotsOk K H G2 t2
  | [], _, t, h => ⟨[], t, rfl, rfl, True.intro, h⟩
  | s :: G1, _, _, ⟨x, r, e, q, w⟩ => by
    obtain ⟨t1, t2, e1, l1, a1, a2⟩ := slots_app w
    subst e e1
    exact ⟨x :: t1, t2, rfl, congrArg Nat.succ l1, ⟨x, t1, rfl, q, a1⟩, a2⟩
theorem slots_join : ∀ {G1 G2 : List Slot} {t1 t2 : L2.St}, t1.length = G1.length → SlotsOk K H G1 t1 → SlotsOk K H G2 t2 → SlotsOk K H (G1 ++ G2) (t1 ++ t2)
  | [], _, [], _, _, _, h => h
  | [], _, _ :: _, _, hl, _, _ => by simp at hl
  | s :: G1, _, _, _, hl, ⟨x, r, e, q, w⟩, h => by
    subst e
    exact ⟨x, _, rfl, q, slots_join (by simpa using hl) w h⟩
/-- the post at a has become another one; e went onto its list -/
structure Gx (K : PySem.W.Frag) (a : Addr) (s s' : PSt) (pd : List PyData) (e : PyData) (H H' : Hp) : Prop where
  stp : Stp [a, s.l] H H'
  ins : Ins K H' a PC s'
  l : s'.l = s.l
  lst : ∃ xs, H' s.l = some (.lst xs) ∧ Fts K H' (pd ++ [e]) xs
theorem EnvE.mut {G1 G2 : List Slot} {D1 D2 : Lists} {t : L2.St} {a : Addr} {s s' : PSt} {pd : List PyData} {e : PyData} (E : EnvE K (G1 ++ .ins a PC s :: G2) (D1 ++ (s.l, pd) :: D2) t H) (g : Gx K a s s' pd e H H') (h1 : apartL a G1) (h2 : apartL a G2) :
    EnvE K (G1 ++ .ins a PC s' :: G2) (D1 ++ (s.l, pd ++ [e]) :: D2) t H' := by
  obtain ⟨xs0, hl0, _⟩ := E.lists (s.l, pd) (List.mem_append_right _ (List.mem_cons_self ..))
  obtain ⟨t1, t2, rfl, l1, a1, x, r, e2, ⟨ex, hi⟩, a2⟩ := slots_app E.slots
  have hi' := hi
  obtain ⟨dx, v1, v2, i1, _, _⟩ := hi'
  have hs : SqK K H H' := sq_stp g.stp fun y hy => by
    rcases List.mem_cons.mp hy with rfl | hy
    · exact .inl ⟨_, _, _, i1⟩
    · rw [List.mem_singleton.mp hy]
      exact .inr ⟨_, hl0⟩
  have nd := E.nd
  refine ⟨?_, ?_, fun p hp => ?_⟩
  · subst e2
    exact slots_join l1 (a1.monoA g.stp hs ⟨_, hl0⟩ h1) ⟨x, r, rfl, ⟨ex, g.ins⟩, a2.monoA g.stp hs ⟨_, hl0⟩ h2⟩
  · rw [List.map_append, List.map_cons] at nd ⊢
    exact nd
  · rw [List.map_append, List.map_cons] at nd
    have other : ∀ p : Addr × List PyData, p ∈ D1 ++ (s.l, pd) :: D2 → p.1 ≠ s.l → ∃ vs, H' p.1 = some (.lst vs) ∧ Fts K H' p.2 vs := fun p hp ne => by
      obtain ⟨vs, q1, q2⟩ := E.lists p hp
      refine ⟨vs, g.stp _ _ q1 fun m => ?_, q2.monoT hs⟩
      rcases List.mem_cons.mp m with m | m
      · rw [m, i1] at q1
        cases q1
      · exact ne (List.mem_singleton.mp m)
    rcases List.mem_append.mp hp with h | h
    · refine other p (List.mem_append_left _ h) fun z => ?_
      exact (List.nodup_append.mp nd).2.2 p.1 (List.mem_map_of_mem h) s.l (List.mem_cons_self ..) z
    · rcases List.mem_cons.mp h with rfl | h
      · exact g.lst
      · refine other p (List.mem_append_right _ (List.mem_cons_of_mem _ h)) fun z => ?_
        exact (List.nodup_cons.mp (List.nodup_append.mp nd).2.1).1 (List.mem_map.mpr ⟨p, h, z⟩)
end
/-- a method that changes the post -/
def spX (K : PySem.W.Frag) (R : PSt → List PyData → PyData → PSt → Prop) : Sp := fun vs H Q _ => ∃ a s us ds d s' pd xs, vs = .ref a :: us ∧ Ins K H a PC s ∧ H s.l = some (.lst xs) ∧ Fts K H pd xs ∧ pd.length ≤ 100 ∧ Fts K H ds us ∧ R s ds d s' ∧
  ∀ e v H', Gx K a s s' pd e H H' → Ft K H' d v → Q v H'
section
variable {X : Cx} {e : Expr} {es : List Expr} {G G1 G2 : List Slot} {D D1 D2 : Lists} {d : PyData} {ds pd : List PyData} {ks : List Keyword} {pos p ap : Pos} {k n : Nat} {m x : Str} {ps kn : List Str} {gD : List PyData → List PyData} {R : PSt → List PyData → PyData → PSt → Prop} {a : Addr} {s s' : PSt} {dvs : List V}
/-- what such a call is worth, and what stands behind it -/
def tX (K : PySem.W.Frag) (G : List Slot) (D : Lists) (A : List Addr) (G' : List Slot) (D' : PyData → Lists) (d : PyData) : TE := fun t H Q => EnvE K G D t H ∧ ∀ e v H', Stp A H H' → EnvE K G' (D' e) t H' → Ft K H' d v → Q v H'
theorem px_meth {pl : Sem Bool} (ex : List PyData) (T : Px X.K X.mg) (i : Nat) (F : FnM X.prog X.w X.K X.mg X.base k m ps dvs (spX X.K R)) (hx : ∀ H, Fts X.K H ex dvs) (hr : Room n X.A) (hk : k ≤ n) (ha : PDs X (G1 ++ .ins a PC s :: G2) (D1 ++ (s.l, pd) :: D2) (e :: es) ds) (hR : R s (ds ++ ex) d s') (hp : pd.length ≤ 100) (h1 : apartL a G1) (h2 : apartL a G2)
    (h : (G1 ++ .ins a PC s :: G2)[i]? = some (.ins a PC s) := by rfl) (hN : X.N[i]? = some x := by rfl) (hv : Vis X.env.scope x := by first | exact Or.inl rfl | exact Or.inr (Or.inl rfl) | exact Or.inr (Or.inr rfl)) (hd : (x == ("__debug__" : Str)) = false := by decide) (hcd : (x == ("__classdict__" : Str)) = false := by decide)
    (hlk : ∀ v1 v2 v3 v4 : V, ([("clocks", v1), ("told", v2), ("next_number", v3), ("past", v4)] : List (Str × V)).lookup m = none := by intros; rfl)
    (hst : starEach (e :: es) X.env = (false, eval e X.env) :: starEach es X.env := by rfl) (hpl : (backTo pos (starEach es X.env)).any (·.1) = false := by rfl)
    (ht : eval (.Call (.Attribute (.Name x p) m ap) (e :: es) [] pos) X.env = (do
      let ov ← eval (.Name x p) X.env
      standAt ap.atName
      let (f, first) ← holding [ov] (getMethod ov m pl)
      callWith pos f first (backTo pos (starEach (e :: es) X.env)) (backToKw pos (keywordEach [] X.env))) := by rfl) :
    PE X (.Call (.Attribute (.Name x p) m ap) (e :: es) [] pos) (tX X.K (G1 ++ .ins a PC s :: G2) (D1 ++ (s.l, pd) :: D2) [a, s.l] (G1 ++ .ins a PC s' :: G2) (fun z => D1 ++ (s.l, pd ++ [z]) :: D2) d) := by
  obtain ⟨f, fd, us, hM, hF, hB, hV⟩ := F.ex
  exact PE.by_ (pe_meth (pe_ins i h hN hv hd hcd) T.cls hM hF (hr.mono hk) hB hV pass0 ha hst hpl ht) fun t H Q ⟨E, q⟩ => by
    obtain ⟨dx, v1, v2, q1, _, _⟩ := (E.ins h).2
    refine ⟨E, a, dx, _, rfl, q1, hlk _ _ _ _, E, fun vs H1 e1 g => ?_⟩
    have E1 := E.mono e1
    obtain ⟨xs, l1, l2⟩ := E1.lists (s.l, pd) (List.mem_append_right _ (List.mem_cons_self ..))
    exact ⟨a, s, _, ds ++ ex, d, s', pd, xs, rfl, (E1.ins h).2, l1, l2, hp, g.app (hx H1), hR, fun z v H2 gx fv => q z v H2 ((Stp.ex e1).trans gx.stp) (E1.mut gx h1 h2) fv⟩
theorem px_methK {pl : Sem Bool} (T : Px X.K X.mg) (i : Nat) (F : FnMK X.prog X.w X.K X.mg X.base k m ps kn gD (spX X.K R)) (hr : Room n X.A) (hk : k ≤ n) (ha : PKd X (G1 ++ .ins a PC s :: G2) (D1 ++ (s.l, pd) :: D2) ks ds) (hR : R s (gD ds) d s') (hp : pd.length ≤ 100) (h1 : apartL a G1) (h2 : apartL a G2) (hl : ds.length = kn.length := by rfl)
    (h : (G1 ++ .ins a PC s :: G2)[i]? = some (.ins a PC s) := by rfl) (hN : X.N[i]? = some x := by rfl) (hv : Vis X.env.scope x := by first | exact Or.inl rfl | exact Or.inr (Or.inl rfl) | exact Or.inr (Or.inr rfl)) (hd : (x == ("__debug__" : Str)) = false := by decide) (hcd : (x == ("__classdict__" : Str)) = false := by decide)
    (hlk : ∀ v1 v2 v3 v4 : V, ([("clocks", v1), ("told", v2), ("next_number", v3), ("past", v4)] : List (Str × V)).lookup m = none := by intros; rfl)
    (hall : (backToKw pos (keywordEach ks X.env)).all (·.1.isSome) = true := by rfl) (hks : (backToKw pos (keywordEach ks X.env)).filterMap (·.1) = kn := by rfl) (hpl : ((backTo pos (starEach [] X.env)).any (·.1) || (backToKw pos (keywordEach ks X.env)).any (·.1.isNone)) = false := by rfl)
    (ht : eval (.Call (.Attribute (.Name x p) m ap) [] ks pos) X.env = (do
      let ov ← eval (.Name x p) X.env
      standAt ap.atName
      let (f, first) ← holding [ov] (getMethod ov m pl)
      callWith pos f first (backTo pos (starEach [] X.env)) (backToKw pos (keywordEach ks X.env))) := by rfl) :
    PE X (.Call (.Attribute (.Name x p) m ap) [] ks pos) (tX X.K (G1 ++ .ins a PC s :: G2) (D1 ++ (s.l, pd) :: D2) [a, s.l] (G1 ++ .ins a PC s' :: G2) (fun z => D1 ++ (s.l, pd ++ [z]) :: D2) d) := by
  obtain ⟨f, fd, g, gV, hM, hF, hB, hV⟩ := F.ex
  exact PE.by_ (pe_methK (pe_ins i h hN hv hd hcd) T.cls hM hF (hr.mono hk) hB pass0 ha hall hks hpl ht) fun t H Q ⟨E, q⟩ => by
    obtain ⟨dx, v1, v2, q1, _, _⟩ := (E.ins h).2
    refine ⟨E, a, dx, _, rfl, q1, hlk _ _ _ _, E, fun vs H1 e1 z => ⟨by rw [z.len, hl], ?_⟩⟩
    have E1 := E.mono e1
    obtain ⟨xs, l1, l2⟩ := E1.lists (s.l, pd) (List.mem_append_right _ (List.mem_cons_self ..))
    obtain ⟨us, e3, z2⟩ := hV H1 a ds vs hl z
    rw [e3]
    exact ⟨a, s, us, gD ds, d, s', pd, xs, rfl, (E1.ins h).2, l1, l2, hp, z2, hR, fun z v H2 gx fv => q z v H2 ((Stp.ex e1).trans gx.stp) (E1.mut gx h1 h2) fv⟩
/-! ### statements -/
def tT (K : PySem.W.Frag) (A : List Addr) (H0 : Hp) (G : List Slot) (D : Lists) (Gd : V → Hp → Prop) : TS := fun En t H => Stp A H0 H ∧ EnvE K G D t H ∧ (∀ v H', Gd v H' → En.rt v H') ∧ ∀ t' H', Gd .non H' → En.nx t' H'
abbrev SMs (X : Cx) (A : List Addr) (G : List Slot) (D : Lists) (sts : List Stmt) (Gd : Hp → V → Hp → Prop) : Prop := ∀ H0, PSs X sts (tT X.K A H0 G D (Gd H0))
abbrev SM (X : Cx) (A : List Addr) (G : List Slot) (D : Lists) (st : Stmt) (N : List Slot → Lists → Prop) : Prop := PS X st (fun En t H => EnvE X.K G D t H ∧ ∀ G' D' t' H', Stp A H H' → EnvE X.K G' D' t' H' → N G' D' → En.nx t' H')
variable {A : List Addr} {st : Stmt} {rest : List Stmt} {Gd : Hp → V → Hp → Prop}
theorem sm_cons (h : SM X A G D st (fun G' D' => SMs X A G' D' rest Gd)) : SMs X A G D (st :: rest) Gd := fun H0 => by
  have hu : PSs X rest (fun En t H => ∃ G' D', SMs X A G' D' rest Gd ∧ tT X.K A H0 G' D' (Gd H0) En t H) := ⟨fun p s c H En I ⟨G', D', z, q⟩ => (z H0).run p s c H En I q⟩
  exact PSs.by_ (pss_cons h hu) fun En t H ⟨x0, E, r, nx⟩ => ⟨E, fun G' D' t' H' e1 E' z => ⟨G', D', z, x0.trans e1, E', r, nx⟩⟩
theorem sm_of {N : List Slot → Lists → Prop} (h : SD X [] G D st (fun _ G' D' => N G' D') (fun _ => False)) : SM X A G D st N := by
  have hu : PS X st (fun En t H => ∃ H0, tS X.K H0 [] G D (fun _ G' D' => N G' D') (fun _ => False) En t H) := ⟨fun p s c H En I ⟨H0, q⟩ => (h H0).run p s c H En I q⟩
  exact PS.by_ hu fun En t H ⟨E, q⟩ => ⟨H, Ex.refl H, fun a z => (nomatch z), E, fun M' G' D' t' H' e1 _ _ E' z => q G' D' t' H' (Stp.ex e1) E' z, fun v H' r _ _ f => f.elim⟩
theorem sm_nil (h : ∀ H0 t H, Stp A H0 H → EnvE X.K G D t H → Gd H0 .non H) : SMs X A G D [] Gd := fun H0 => PSs.by_ pss_nil fun En t H ⟨x0, E, r, nx⟩ => nx t H (h H0 t H x0 E)
theorem sm_ret (hd : PD X G D e d) (h : ∀ H0 t H v, Stp A H0 H → EnvE X.K G D t H → Ft X.K H d v → Gd H0 v H) : SMs X A G D [.Return (some e) pos] Gd := fun H0 => PSs.by_ (pss_one (ps_ret hd)) fun En t H ⟨x0, E, r, nx⟩ => ⟨E, fun v H1 e1 f => r v H1 (h H0 t H1 v (x0.trans (Stp.ex e1)) (E.mono e1) f)⟩
theorem sm_exprX {G' : List Slot} {D' : PyData → Lists} {N : List Slot → Lists → Prop} (h : PE X e (tX X.K G D A G' D' d)) (hN : ∀ z, N G' (D' z)) (hs : swapsWith e none pos.line X.env = pure false := by rfl) : SM X A G D (.Expr e pos) N :=
  PS.by_ (ps_expr h hs) fun En t H ⟨E, q⟩ => ⟨E, fun z v H' e1 E' f => q G' (D' z) t H' e1 E' (hN z)⟩
end
section
variable {P : Program} {w : World} {K : PySem.W.Frag} {mg : Str → Option Value} {base : Heap}
theorem fn_bodyX {x qual : Str} {params : Arguments} {body : List Stmt} {scope : Scope} {dvs : List V} {kws : List (Str × V)} {f : Addr} {fd : FuncData} {N ps : List Str} {k : Nat} {R : PSt → List PyData → PyData → PSt → Prop} (F : FunD K x qual params body scope dvs kws f fd) (S : FnScope N ps scope) (hlen : ∀ s ds d s', R s ds d s' → ds.length + 1 = ps.length)
    (hbody : ∀ (cdv : Value) (A : Around) (outer : List Env) (s : Shared) (H : Hp) (E : XK), Room k (A.deeper (envOfC qual scope s.heap.objs.size f cdv)) → ∀ a st ds d st' pd, R st ds d st' → pd.length ≤ 100 →
      SMs (cxOf CX0 P w K mg base N qual scope f cdv A outer s H E).nox [a, st.l] (.ins a PC st :: (ds.map .dat ++ List.replicate (N.length - ps.length) .no)) [(st.l, pd)] body (fun H0 v H' => (∃ e, Gx K a st st' pd e H0 H') ∧ Ft K H' d v)) : FnOk P w K mg base CX0 (k + 1) f fd ps (spX K R) := by
  refine FunD.ok F S (fun vs H Q E h => ?_) (fun cdv A outer s H vs Q E hr h => ?_)
  · obtain ⟨a, st, us, ds, d, st', pd, xs, rfl, _, _, _, _, hf, hR, _⟩ := h
    rw [List.length_cons, hf.len]
    exact hlen st ds d st' hR
  · obtain ⟨a, st, us, ds, d, st', pd, xs, rfl, hi, hl, fl, hp, hf, hR, q⟩ := h
    have hb := hbody cdv A outer s H E hr a st ds d st' pd hR hp H
    refine ⟨_, hb.nox, Stp.refl _ H, ⟨?_, by simp, fun p hp => ?_⟩, fun v H' ⟨⟨e, g⟩, fv⟩ => q e v H' g fv, fun t' H' ⟨⟨e, g⟩, fv⟩ => q e .non H' g fv⟩
    · have hl : (V.ref a :: us).length = ps.length := by rw [List.length_cons, hf.len]; exact hlen st ds d st' hR
      show SlotsOk K H _ (L2.start N (V.ref a :: us))
      unfold L2.start
      rw [hl]
      exact ⟨_, _, rfl, ⟨rfl, hi⟩, slots_start _ hf⟩
    · rw [List.mem_singleton.mp hp]
      exact ⟨xs, hl, fl⟩
end
end Gk
end

section
set_option linter.all false
set_option maxRecDepth 100000
namespace Gk
open PySem PySem.Spec PyProof.Rows L2 Evl
theorem EnvE.fld {K : PySem.W.Frag} {H : Hp} {G0 : List Slot} {t : L2.St} {a : Addr} {s s' : PSt} {pd : List PyData} {o : HO} (E : EnvE K (.ins a PC s :: G0) [(s.l, pd)] t H) (hi : SqK K H (L2.upd H a o) → Ins K (L2.upd H a o) a PC s') (h0 : apartL a G0) (hl : s'.l = s.l) : EnvE K (.ins a PC s' :: G0) [(s'.l, pd)] t (L2.upd H a o) := by
  obtain ⟨xs0, l0, f0⟩ := E.lists (s.l, pd) (List.mem_cons_self ..)
  obtain ⟨x, r, e2, ⟨ex, hi0⟩, a2⟩ := E.slots
  obtain ⟨dx, v1, v2, i1, _, _⟩ := hi0
  have st : Stp [a, s.l] H (L2.upd H a o) := Stp.upd (List.mem_cons_self ..)
  have hs : SqK K H (L2.upd H a o) := sq_stp (A := [a]) (Stp.upd (List.mem_cons_self ..)) fun y hy => by
    rw [List.mem_singleton.mp hy]
    exact .inl ⟨_, _, _, i1⟩
  have ne : s.l ≠ a := fun z => by
    rw [z, i1] at l0
    cases l0
  refine ⟨⟨x, r, e2, ⟨ex, hi hs⟩, a2.monoA st hs ⟨_, l0⟩ h0⟩, by simp, fun p hp => ?_⟩
  rw [List.mem_singleton.mp hp, hl]
  exact ⟨xs0, by rw [upd_ne ne]; exact l0, f0.monoT hs⟩
section
variable {X : Cx} {e : Expr} {es : List Expr} {G0 : List Slot} {d : PyData} {ds pd : List PyData} {pos p p' : Pos} {n : Int} {x : Str} {a : Addr} {s : PSt} {N : List Slot → Lists → Prop}
theorem sm_cl (T : Px X.K X.mg) (hd : PD X (.ins a PC s :: G0) [(s.l, pd)] e d) (h0 : apartL a G0) (hN : N (.ins a PC { s with cl := d } :: G0) [(s.l, pd)]) (hi : X.N[0]? = some x := by rfl) (hv : Vis X.env.scope x := by first | exact Or.inl rfl | exact Or.inr (Or.inl rfl) | exact Or.inr (Or.inr rfl)) (hdb : (x == ("__debug__" : Str)) = false := by decide) (hcd : (x == ("__classdict__" : Str)) = false := by decide)
    (hs : swapsWith e (some (.Attribute (.Name x p) "clocks" p')) pos.line X.env = pure false := by rfl) : SM X [a, s.l] (.ins a PC s :: G0) [(s.l, pd)] (.Assign [.Attribute (.Name x p) "clocks" p'] e pos) N :=
  PS.by_ (ps_fld (pe_ins 0 rfl hi hv hdb hcd) hd hs) fun En t H ⟨E, q⟩ => ⟨E, fun v H1 e1 f => by
    have E1 := E.mono e1
    obtain ⟨x', r, e2, ⟨ex, dx, v1, v2, i1, f1, f2⟩, a2⟩ := E1.slots
    refine ⟨E1, a, PC, dx, _, rfl, i1, T.cls, T.noat _ (by decide), by show 4 < 1000; omega, q (.ins a PC { s with cl := d } :: G0) [(s.l, pd)] t _ ((Stp.ex e1).trans (Stp.upd (List.mem_cons_self ..))) (E1.fld (s' := { s with cl := d }) (fun hq => ?_) h0 rfl) hN⟩
    exact ⟨dx, v, v2, upd_same, f.monoT hq, f2.monoT hq⟩⟩
theorem sm_td (T : Px X.K X.mg) (hd : PD X (.ins a PC s :: G0) [(s.l, pd)] e d) (h0 : apartL a G0) (hN : N (.ins a PC { s with td := d } :: G0) [(s.l, pd)]) (hi : X.N[0]? = some x := by rfl) (hv : Vis X.env.scope x := by first | exact Or.inl rfl | exact Or.inr (Or.inl rfl) | exact Or.inr (Or.inr rfl)) (hdb : (x == ("__debug__" : Str)) = false := by decide) (hcd : (x == ("__classdict__" : Str)) = false := by decide)
    (hs : swapsWith e (some (.Attribute (.Name x p) "told" p')) pos.line X.env = pure false := by rfl) : SM X [a, s.l] (.ins a PC s :: G0) [(s.l, pd)] (.Assign [.Attribute (.Name x p) "told" p'] e pos) N :=
  PS.by_ (ps_fld (pe_ins 0 rfl hi hv hdb hcd) hd hs) fun En t H ⟨E, q⟩ => ⟨E, fun v H1 e1 f => by
    have E1 := E.mono e1
    obtain ⟨x', r, e2, ⟨ex, dx, v1, v2, i1, f1, f2⟩, a2⟩ := E1.slots
    refine ⟨E1, a, PC, dx, _, rfl, i1, T.cls, T.noat _ (by decide), by show 4 < 1000; omega, q (.ins a PC { s with td := d } :: G0) [(s.l, pd)] t _ ((Stp.ex e1).trans (Stp.upd (List.mem_cons_self ..))) (E1.fld (s' := { s with td := d }) (fun hq => ?_) h0 rfl) hN⟩
    exact ⟨dx, v1, v, upd_same, f1.monoT hq, f.monoT hq⟩⟩
theorem sm_nx (T : Px X.K X.mg) (hd : PD X (.ins a PC s :: G0) [(s.l, pd)] e (.int n)) (h0 : apartL a G0) (hN : N (.ins a PC { s with n := n } :: G0) [(s.l, pd)]) (hi : X.N[0]? = some x := by rfl) (hv : Vis X.env.scope x := by first | exact Or.inl rfl | exact Or.inr (Or.inl rfl) | exact Or.inr (Or.inr rfl)) (hdb : (x == ("__debug__" : Str)) = false := by decide) (hcd : (x == ("__classdict__" : Str)) = false := by decide)
    (hs : swapsWith e (some (.Attribute (.Name x p) "next_number" p')) pos.line X.env = pure false := by rfl) : SM X [a, s.l] (.ins a PC s :: G0) [(s.l, pd)] (.Assign [.Attribute (.Name x p) "next_number" p'] e pos) N :=
  PS.by_ (ps_fld (pe_ins 0 rfl hi hv hdb hcd) hd hs) fun En t H ⟨E, q⟩ => ⟨E, fun v H1 e1 f => by
    have E1 := E.mono e1
    have ev : v = .int n := f
    subst ev
    obtain ⟨x', r, e2, ⟨ex, dx, v1, v2, i1, f1, f2⟩, a2⟩ := E1.slots
    refine ⟨E1, a, PC, dx, _, rfl, i1, T.cls, T.noat _ (by decide), by show 4 < 1000; omega, q (.ins a PC { s with n := n } :: G0) [(s.l, pd)] t _ ((Stp.ex e1).trans (Stp.upd (List.mem_cons_self ..))) (E1.fld (s' := { s with n := n }) (fun hq => ?_) h0 rfl) hN⟩
    exact ⟨dx, v1, v2, upd_same, f1.monoT hq, f2.monoT hq⟩⟩
theorem sm_past (T : Px X.K X.mg) {p1 p2 p3 : Pos} (hd : PD X (.ins a PC s :: G0) [(s.l, pd)] e d) (hz : pd.length ≤ 1000) (hN : N (.ins a PC s :: G0) [(s.l, pd ++ [d])]) (hi : X.N[0]? = some x := by rfl) (hv : Vis X.env.scope x := by first | exact Or.inl rfl | exact Or.inr (Or.inl rfl) | exact Or.inr (Or.inr rfl)) (hdb : (x == ("__debug__" : Str)) = false := by decide) (hcd : (x == ("__classdict__" : Str)) = false := by decide)
    (hb0 : attributeBase (.Name x p) "past" X.env (eval (.Name x p) X.env) = eval (.Name x p) X.env := by rfl)
    (hs1 : starEach [e] X.env = (false, eval e X.env) :: starEach [] X.env := by rfl) (hb : attributeBase (.Attribute (.Name x p) "past" p3) "append" X.env (eval (.Attribute (.Name x p) "past" p3) X.env) = eval (.Attribute (.Name x p) "past" p3) X.env := by rfl)
    (hf : ((backTo p2 (starEach [e] X.env)).all (fun x => !x.1) && (backToKw p2 (keywordEach [] X.env)).all (fun x => x.1.isSome) && decide ([e].length + ([] : List Keyword).length + (if ([] : List Keyword).isEmpty then 0 else 1) < 30)) = true := by rfl)
    (hl : (p1.endLine == p2.line) = true := by rfl) (hs : swapsWith (.Call (.Attribute (.Attribute (.Name x p) "past" p3) "append" p1) [e] [] p2) none pos.line X.env = pure false := by rfl) :
    SM X [a, s.l] (.ins a PC s :: G0) [(s.l, pd)] (.Expr (.Call (.Attribute (.Attribute (.Name x p) "past" p3) "append" p1) [e] [] p2) pos) N :=
  PS.by_ (ps_expr (pe_bm PySem.F.plainAttrs_list PySem.F.slot_list_append PySem.F.type_list_append mt_append (pe_fld (pe_ins 0 rfl hi hv hdb hcd) hb0) (pa_cons hd pa_nil hs1) hb hf hl hs1 (by rfl)) hs) fun En t H ⟨E, q⟩ => by
    obtain ⟨x', r, e2, ⟨ex, dx, v1, v2, i1, f1, f2⟩, a2⟩ := E.slots
    obtain ⟨vs, h1, _⟩ := E.lists (s.l, pd) (List.mem_cons_self ..)
    refine ⟨E, a, PC, dx, _, _, rfl, i1, T.cls, T.noat _ (by decide), rfl, .inl ⟨rfl, _, SqL.of h1⟩, E, fun v H1 e1 f => ?_⟩
    have E1 := E.mono e1
    obtain ⟨us, h3, h4⟩ := E1.lists (s.l, pd) (List.mem_cons_self ..)
    refine ⟨s.l, us, v, rfl, rfl, h3, sz_lt (by have hl : us.length = pd.length := h4.len; omega), ?_⟩
    exact q _ _ t _ ((Stp.ex e1).trans (Stp.upd (List.mem_cons_of_mem _ (List.mem_cons_self ..)))) (E1.upd (D1 := []) (h4.app (Fts.one f))) hN
end
theorem gx_of {K : PySem.W.Frag} {H0 H : Hp} {a : Addr} {s s' : PSt} {pd : List PyData} {z : PyData} {G0 : List Slot} {t : L2.St} (hl : s'.l = s.l) (h : Stp [a, s.l] H0 H) (E : EnvE K (.ins a PC s' :: G0) [(s'.l, pd ++ [z])] t H) : Gx K a s s' pd z H0 H := by
  obtain ⟨x', r, e2, ⟨ex, hi⟩, a2⟩ := E.slots
  refine ⟨h, hi, hl, ?_⟩
  rw [← hl]
  exact E.lists _ (List.mem_cons_self ..)
section
variable {P : Program} {w : World} {K : PySem.W.Frag} {mg : Str → Option Value} {base : Heap}
inductive R_become : PSt → List PyData → PyData → PSt → Prop
  | mk {s : PSt} {cl td : PyData} {n : Int} : R_become s [cl, td, .int n] .none ⟨cl, td, n, s.l⟩
theorem sc_Post_become : FnScope ["self", "clocks", "told", "next_number"] ["self", "clocks", "told", "next_number"] (defScope s_Post_become) := ⟨rfl, rfl, rfl, by decide +kernel, rfl, by decide +kernel, by decide +kernel⟩
theorem fm_become (T : Px K mg) : FnM P w K mg base 1 "become" ["self", "clocks", "told", "next_number"] [] (spX K R_become) := by
  refine FnM.mk_ T m_Post_become rfl (by decide) (fun _ _ _ _ _ _ us hl => match us, hl with | [_, _, _, _], _ => rfl) fun fd F => fn_bodyX F sc_Post_become (by rintro _ _ _ _ ⟨⟩; rfl) fun cdv A outer s H E hr a st ds d st' pd hR hp => ?_
  cases hR with
  | @mk cl td n =>
    refine sm_cons (sm_past T (pd_tup (pds_cons (pd_clocks (s := st) T 0) (pds_cons (pd_told (s := st) T 0) (pds_cons (pd_next (s := st) T 0) pds_nil)))) (by omega) ?_)
    refine sm_cons (sm_cl T (pd_var 1) True.intro ?_)
    refine sm_cons (sm_td T (pd_var 2) True.intro ?_)
    refine sm_cons (sm_nx T (pd_var 3) True.intro ?_)
    exact sm_nil fun H0 t H x0 E => ⟨⟨_, gx_of rfl x0 E⟩, rfl⟩
end
end Gk
end

section
set_option linter.all false
set_option maxRecDepth 100000
namespace Gk
open PySem PySem.Spec PyProof.Rows L2 Evl
theorem bounds_told {t : Told} (h : ToldOk t) : R_are_bounds [dO t.low, dO t.high] (.dat (.bool true)) := by
  have e : boundsOk t.low t.high = true := by
    have h1 := h.some_
    have h2 := h.le
    cases hl : t.low with
    | none =>
      cases hh : t.high with
      | none => rw [hl, hh] at h1; simp at h1
      | some b => rfl
    | some a =>
      cases hh : t.high with
      | none => rfl
      | some b => exact decide_eq_true (h2 a b hl hh)
  rw [← e]
  exact .mk (fun a q => (h.lo a q).sm (by decide)) (fun a q => (h.hi a q).sm (by decide))
abbrev PV.new (v : PV) (m : Rat) (o1 o2 : Nat) (lo hi : Option Rat) : Told := ⟨v.n, m, o1, o2, lo, hi⟩
abbrev PV.tell (v : PV) (m : Rat) (o1 o2 : Nat) (lo hi : Option Rat) : PV := ⟨v.cs, v.tl ++ [v.new m o1 o2 lo hi], v.n + 1⟩
abbrev PV.set1 (v : PV) (c : Nat) (m j : Rat) : PV := ⟨v.cs.set c ⟨(clkAt v.cs c).gain, [(m, j)]⟩, v.tl, v.n⟩
abbrev PV.drop (v : PV) (k : Int) : PV := ⟨v.cs, v.tl.filter fun t => !PyData.eqv (.int t.no) (.int k), v.n⟩
section
variable {P : Program} {w : World} {K : PySem.W.Frag} {mg : Str → Option Value} {base : Heap}
inductive R_tells : PSt → List PyData → PyData → PSt → Prop
  | mk {D M : Nat} {v : PV} {l : Addr} {m : Rat} {o1 o2 : Nat} {lo hi : Option Rat} {p : Nat → Rat} (h : PVOk D M (v.tell m o1 o2 lo hi)) (hp : Pot (stepsOf (v.tell m o1 o2 lo hi).tels) p) (hl : v.tl.length < 10) (h0 : 0 ≤ m) : R_tells (v.st l) [dP m, .int o1, .int o2, dO lo, dO hi] (.int (v.n + 1 - 1)) ((v.tell m o1 o2 lo hi).st l)
theorem sc_Post_tells : FnScope ["self", "moment", "one", "other", "low", "high", "told"] ["self", "moment", "one", "other", "low", "high"] (defScope s_Post_tells) := ⟨rfl, rfl, rfl, by decide +kernel, rfl, by decide +kernel, by decide +kernel⟩
set_option maxHeartbeats 1000000 in
theorem ok_tells (T : Px K mg) {dvs : List V} {fd : FuncData} (F : FunD K d_Post_tells.name d_Post_tells.qual (defArgs d_Post_tells.st) (defBody d_Post_tells.st) (defScope d_Post_tells.st) dvs [] d_Post_tells.f fd) : FnOk P w K mg base CX0 7 d_Post_tells.f fd ["self", "moment", "one", "other", "low", "high"] (spX K R_tells) := by
  refine fn_bodyX F sc_Post_tells (by rintro _ _ _ _ ⟨⟩; rfl) fun cdv A outer s H E hr a st ds d st' pd hR hpd => ?_
  cases hR with
  | @mk D0 M0 v l m o1 o2 lo hi p h hp hl h0 =>
    have T' := T.toTx
    have ok : ToldOk (v.new m o1 o2 lo hi) := h.tl _ (List.mem_append_right _ (List.mem_singleton.mpr rfl))
    have hdl : (v.tl.map dTold).length = v.tl.length := List.length_map ..
    have em : (v.tl.map dTold) ++ [dTold (v.new m o1 o2 lo hi)] = (v.tl ++ [v.new m o1 o2 lo hi]).map dTold := by rw [List.map_append] <;> rfl
    have q1 : PyData.eqv (.int (o1 : Nat)) (.int (o2 : Nat)) = false := by rw [eqv_nat, decide_eq_false ok.ne]
    have q2 : PyData.eqv (.int ((v.tl.map dTold).length : Nat)) (.int 10) = false := by
      rw [hdl]
      exact beq_eq_false_iff_ne.mpr (by omega)
    refine sm_cons (sm_of (sd_expr (pd_call (fn_need_moment T') hr (by decide) (pds_cons (pd_var 1) pds_nil) (.mk h0)) ?_))
    refine sm_cons (sm_of (sd_expr (pd_call (fn_need_clock_number T') hr (by decide) (pds_cons (pd_var 2) pds_nil) (.mk ok.one)) ?_))
    refine sm_cons (sm_of (sd_expr (pd_call (fn_need_clock_number T') hr (by decide) (pds_cons (pd_var 3) pds_nil) (.mk ok.other)) ?_))
    refine sm_cons (sm_of (sd_if (b := false) (pq_cmp (cd_eqV q1 hr (pd_var 2) (pd_var 3))) (fun h1 => by cases h1) (fun _ => sds_nil ?_)))
    refine sm_cons (sm_of (sd_if (pq_not (pq_val (pd_call (fn_are_bounds T') hr (by decide) (pds_cons (pd_var 4) (pds_cons (pd_var 5) pds_nil)) (bounds_told ok)))) (fun h2 => by cases h2) (fun _ => sds_nil ?_)))
    refine sm_cons (sm_of (sd_if (b := false) (pq_cmp (cd_eqV q2 hr (pd_lenT (pd_told (s := v.st l) T 0) T'.len) (k_MOST_STANDING T'))) (fun h3 => by cases h3) (fun _ => sds_nil ?_)))
    refine sm_cons (sm_of (sd_asg (d := dTolds (v.tl ++ [v.new m o1 o2 lo hi])) 6 sc_Post_tells.nd (by unfold dTolds; rw [← em]; exact (pd_cat (pd_told (s := v.st l) T 0) (pd_tup (pds_cons (pd_tup (pds_cons (pd_next (s := v.st l) T 0) (pds_cons (pd_var 1) (pds_cons (pd_var 2) (pds_cons (pd_var 3) (pds_cons (pd_var 4) (pds_cons (pd_var 5) pds_nil))))))) pds_nil)) (by rw [hdl]; show v.tl.length + 1 ≤ 1000; omega))) ?_))
    refine sm_cons (sm_of (sd_if (pq_not (pq_val (pd_call (fn_together T') hr (by decide) (pds_cons (pd_meth (s := v.st l) (ds := [dClks v.cs, dTolds (v.tl ++ [v.new m o1 o2 lo hi])]) [] T 0 (fm_taken_back T) (fun _ => rfl) hr (by decide) (pds_cons (pd_clocks (s := v.st l) T 0) (pds_cons (pd_var 6) pds_nil)) (.mk h.cs h.tl (Nat.le_trans h.len (by decide)))) pds_nil) (.mk h.z h.tels hp)))) (fun h4 => by cases h4) (fun _ => sds_nil ?_)))
    refine sm_cons (sm_exprX (px_meth (G1 := []) (D1 := []) (D2 := []) (s := v.st l) (ds := [dClks v.cs, dTolds (v.tl ++ [v.new m o1 o2 lo hi]), .int (v.n + 1)]) [] T 0 (fm_become T) (fun _ => rfl) hr (by decide) (pds_cons (pd_clocks (s := v.st l) T 0) (pds_cons (pd_var 6) (pds_cons (pd_add (pd_next (s := v.st l) T 0) pd_int) pds_nil))) .mk hpd True.intro True.intro) fun z => ?_)
    exact sm_ret (pd_sub (pd_next (s := (v.tell m o1 o2 lo hi).st l) T 0) pd_int) fun H0 t H w x0 E f => ⟨⟨z, gx_of (s := v.st l) (s' := (v.tell m o1 o2 lo hi).st l) rfl x0 E⟩, f⟩
theorem fm_tells (T : Px K mg) : FnM P w K mg base 7 "tells" ["self", "moment", "one", "other", "low", "high"] [] (spX K R_tells) := FnM.mkD (vs := [.non, .non]) 6 2 T m_Post_tells rfl (List.mem_of_getElem? (i := 6) rfl) (by simp) rfl (by decide) (fun _ _ _ _ _ _ _ us its h1 h2 => match us, its, h1, h2 with | [_, _, _, _, _, _], [_, _], _, _ => ⟨_, rfl, rfl⟩) fun fd F => ok_tells T F
theorem fm1_tells (T : Px K mg) : FnM P w K mg base 7 "tells" ["self", "moment", "one", "other", "low", "high"] [.non] (spX K R_tells) := FnM.mkD (vs := [.non, .non]) 5 1 T m_Post_tells rfl (List.mem_of_getElem? (i := 6) rfl) (by simp) rfl (by decide) (fun _ _ _ _ _ _ _ us its h1 h2 => match us, its, h1, h2 with | [_, _, _, _, _], [_, _], _, _ => ⟨_, rfl, rfl⟩) fun fd F => ok_tells T F
theorem fmkL_tells (T : Px K mg) : FnMK P w K mg base 7 "tells" ["self", "moment", "one", "other", "low", "high"] ["low", "other", "one", "moment"] (fun ds => ds.reverse ++ [.none]) (spX K R_tells) := FnMK.mkD (vs := [.non, .non]) (fun us its ws => us ++ (ws.reverse ++ its.drop 1)) (fun ds => ds.reverse ++ [.none]) T m_Post_tells rfl (List.mem_of_getElem? (i := 6) rfl) (by simp) (by decide) (fun r1 r2 r3 => r1.append (r3.reverse.append (r2.drop 1))) (fun _ _ _ _ _ _ _ us its ws h1 h2 h3 => match us, its, ws, h1, h2, h3 with | [_], [_, _], [_, _, _, _], _, _, _ => ⟨_, rfl, rfl⟩) (fun H a ds zs _ h => ⟨_, rfl, h.rev.app (Fts.one (d := PyData.none) rfl)⟩) fun fd F => ok_tells T F
theorem fmkH_tells (T : Px K mg) : FnMK P w K mg base 7 "tells" ["self", "moment", "one", "other", "low", "high"] ["high", "other", "one", "moment"] (fun ds => (ds.drop 1).reverse ++ ([.none] ++ ds.take 1)) (spX K R_tells) := FnMK.mkD (vs := [.non, .non]) (fun us its ws => us ++ ((ws.drop 1).reverse ++ (its.take 1 ++ ws.take 1))) (fun ds => (ds.drop 1).reverse ++ ([.none] ++ ds.take 1)) T m_Post_tells rfl (List.mem_of_getElem? (i := 6) rfl) (by simp) (by decide) (fun r1 r2 r3 => r1.append ((r3.drop 1).reverse.append ((r2.take 1).append (r3.take 1)))) (fun _ _ _ _ _ _ _ us its ws h1 h2 h3 => match us, its, ws, h1, h2, h3 with | [_], [_, _], [_, _, _, _], _, _, _ => ⟨_, rfl, rfl⟩) (fun H a ds zs hl h => by
  exact ⟨_, rfl, ((h.drop 1).rev).app ((Fts.one (d := PyData.none) rfl).app (h.take 1))⟩) fun fd F => ok_tells T F
end
end Gk
end

section
set_option linter.all false
set_option maxRecDepth 100000
namespace Gk
open PySem PySem.Spec PyProof.Rows L2 Evl
theorem set_cat {α : Type} {xs : List α} {i : Nat} {x : α} (h : i < xs.length) : xs.set i x = (xs.take i ++ [x]) ++ xs.drop (i + 1) := by
  rw [List.set_eq_take_append_cons_drop, if_pos h, List.append_assoc] <;> rfl
section
variable {P : Program} {w : World} {K : PySem.W.Frag} {mg : Str → Option Value} {base : Heap}
inductive R_sets : PSt → List PyData → PyData → PSt → Prop
  | mk {D M : Nat} {v : PV} {l : Addr} {c : Nat} {m j : Rat} {p : Nat → Rat} (hc : 1 ≤ c) (h6 : c < 6) (hcs : v.cs.length = 6) (he : (clkAt v.cs c).sets = []) (h : PVOk D M (v.set1 c m j)) (hp : Pot (stepsOf (v.set1 c m j).tels) p) (h0 : 0 ≤ m) (hj : j ≠ 0) : R_sets (v.st l) [.int c, dP m, dP j] .none ((v.set1 c m j).st l)
theorem sc_Post_sets : FnScope ["self", "clock", "moment", "jump", "gain", "ahead", "at", "own", "clocks", "when", "by"] ["self", "clock", "moment", "jump"] (defScope s_Post_sets) := ⟨rfl, rfl, rfl, by decide +kernel, rfl, by decide +kernel, by decide +kernel⟩
set_option maxHeartbeats 1000000 in
theorem ok_sets (T : Px K mg) {dvs : List V} {fd : FuncData} (F : FunD K d_Post_sets.name d_Post_sets.qual (defArgs d_Post_sets.st) (defBody d_Post_sets.st) (defScope d_Post_sets.st) dvs [] d_Post_sets.f fd) : FnOk P w K mg base CX0 7 d_Post_sets.f fd ["self", "clock", "moment", "jump"] (spX K R_sets) := by
  refine fn_bodyX F sc_Post_sets (by rintro _ _ _ _ ⟨⟩; rfl) fun cdv A outer s H E hr a st ds d st' pd hR hpd => ?_
  cases hR with
  | @mk D0 M0 v l c m j p hc h6 hcs he h hp h0 hj =>
    have T' := T.toTx
    have hdl : (v.cs.map dClk).length = 6 := by rw [List.length_map]; exact hcs
    have hgt : dClk (clkAt v.cs c) = .tuple [dP (clkAt v.cs c).gain, .tuple []] := by
      show PyData.tuple [dP (clkAt v.cs c).gain, .tuple ((clkAt v.cs c).sets.map dSet)] = _
      rw [he] <;> rfl
    have q1 : PyData.eqv (dP j) (dP 0) = false := by rw [eqv_dP, decide_eq_false hj]
    have em : ((v.cs.map dClk).take c ++ [dClk ⟨(clkAt v.cs c).gain, [(m, j)]⟩]) ++ (v.cs.map dClk).drop (c + 1) = (v.cs.set c ⟨(clkAt v.cs c).gain, [(m, j)]⟩).map dClk := by
      rw [set_cat (by omega), List.map_append, List.map_append, List.map_take, List.map_drop] <;> rfl
    refine sm_cons (sm_of (sd_expr (pd_call (fn_need_other_clock T') hr (by decide) (pds_cons (pd_var 1) pds_nil) (.mk hc h6)) ?_))
    refine sm_cons (sm_of (sd_expr (pd_call (fn_need_moment T') hr (by decide) (pds_cons (pd_var 2) pds_nil) (.mk h0)) ?_))
    refine sm_cons (sm_of (sd_if (wq_q (wq_or (pq_not (pq_val (pd_call (fn_is_part T') hr (by decide) (pds_cons (pd_var 3) pds_nil) .mk))) fun h1 => (wq_or1 (p := false) (pq_cmp (cd_eqV q1 hr (pd_var 3) (k_NOUGHT T') sh_dP sh_dP))))) (fun h2 => by cases h2) (fun _ => sds_nil ?_)))
    refine sm_cons (sm_of (sd_asgT (d := .tuple [dP (clkAt v.cs c).gain, .tuple []]) (by rw [← hgt]; exact pd_ix (pd_clocks (s := v.st l) T 0) (pd_var 1) (at_map (f := dClk) (z := ⟨0, []⟩) (by omega))) (gd_tup (gds_cons (gd_name 4 sc_Post_sets.nd) (gds_cons (gd_name 5 sc_Post_sets.nd) gds_nil))) ?_))
    refine sm_cons (sm_of (sd_if (b := false) (pq_cmp (cd_inD (ds := []) hr (pd_var 2) (pl_r (pl_lc (own := [("when", 9), ("by", 10)]) (lc_map (is := [9, 10]) dSet ([] : List (Rat × Rat)) (fun x => dP x.1) (fun x hx => by cases hx) (by decide) (id_tup (pd_var 5))) sc_Post_sets.nd (blkOk_by rfl))) (sh_shaped (n := 9) sh_dP) (sh_shaped (n := 9) rfl))) (fun h3 => by cases h3) (fun _ => sds_nil ?_)))
    refine sm_cons (sm_of (sd_if (b := false) (pq_cmp (cd_eqV rfl hr (pd_lenT (ds := []) (pd_var 5) T'.len) (k_MOST_SETS T'))) (fun h4 => by cases h4) (fun _ => sds_nil ?_)))
    refine sm_cons (sm_of (sd_asg (d := .int 0) 6 sc_Post_sets.nd (pd_lenL (ds := []) (pl_r (pl_lc (own := [("when", 9), ("by", 10)]) (lc_of (is := [9, 10]) dSet ([] : List (Rat × Rat)) (fun _ => true) (fun x => .int 1) (fun x hx => by cases hx) (by decide) (by decide) (id_tup (pd_var 5))) sc_Post_sets.nd (blkOk_by rfl))) T'.len) ?_))
    refine sm_cons (sm_of (sd_asg (d := dClk ⟨(clkAt v.cs c).gain, [(m, j)]⟩) 7 sc_Post_sets.nd (pd_tup (pds_cons (pd_var 4) (pds_cons (pd_cat (ds := [.tuple [dP m, dP j]]) (es' := []) (pd_cat (ds := []) (es' := [.tuple [dP m, dP j]]) (pd_slice (ds := []) (x := none) (y := some 0) (pd_var 5) qo_none (qo_some (pd_var 6))) (pd_tup (pds_cons (pd_tup (pds_cons (pd_var 2) (pds_cons (pd_var 3) pds_nil))) pds_nil)) (by show 0 + 1 ≤ 1000; omega)) (pd_slice (ds := []) (x := some 0) (y := none) (pd_var 5) (qo_some (pd_var 6)) qo_none) (by show 1 + 0 ≤ 1000; omega)) pds_nil))) ?_))
    refine sm_cons (sm_of (sd_asg (d := dClks (v.cs.set c ⟨(clkAt v.cs c).gain, [(m, j)]⟩)) 8 sc_Post_sets.nd ?_ ?_))
    · unfold dClks
      rw [← em, ← cut_take (ds := v.cs.map dClk) (n := c) (by omega), ← cut_drop (ds := v.cs.map dClk) (n := c) (by omega)]
      refine pd_cat (pd_cat (pd_slice (pd_clocks (s := v.st l) T 0) qo_none (qo_some (pd_var 1))) (pd_tup (pds_cons (pd_var 7) pds_nil)) ?_) (pd_slice (pd_clocks (s := v.st l) T 0) (qo_some (pd_add (pd_var 1) pd_int)) qo_none) ?_
      · rw [cut_take (by omega), List.length_take]
        show _ + 1 ≤ 1000
        omega
      · rw [cut_take (by omega), cut_drop (by omega), List.length_append, List.length_take, List.length_drop]
        show _ + 1 + _ ≤ 1000
        omega
    refine sm_cons (sm_of (sd_if (pq_not (pq_val (pd_call (fn_together T') hr (by decide) (pds_cons (pd_meth (s := v.st l) (ds := [dClks (v.cs.set c ⟨(clkAt v.cs c).gain, [(m, j)]⟩), dTolds v.tl]) [] T 0 (fm_taken_back T) (fun _ => rfl) hr (by decide) (pds_cons (pd_var 8) (pds_cons (pd_told (s := v.st l) T 0) pds_nil)) (.mk h.cs h.tl (Nat.le_trans h.len (by decide)))) pds_nil) (.mk h.z h.tels hp)))) (fun h4 => by cases h4) (fun _ => sds_nil ?_)))
    refine sm_cons (sm_exprX (px_meth (G1 := []) (D1 := []) (D2 := []) (s := v.st l) (ds := [dClks (v.cs.set c ⟨(clkAt v.cs c).gain, [(m, j)]⟩), dTolds v.tl, .int v.n]) [] T 0 (fm_become T) (fun _ => rfl) hr (by decide) (pds_cons (pd_var 8) (pds_cons (pd_told (s := v.st l) T 0) (pds_cons (pd_next (s := v.st l) T 0) pds_nil))) .mk hpd True.intro True.intro) fun z => ?_)
    exact sm_nil fun H0 t H x0 E => ⟨⟨z, gx_of (s := v.st l) (s' := (v.set1 c m j).st l) rfl x0 E⟩, rfl⟩
theorem fm_sets (T : Px K mg) : FnM P w K mg base 7 "sets" ["self", "clock", "moment", "jump"] [] (spX K R_sets) := FnM.mk_ T m_Post_sets rfl (by decide) (fun _ _ _ _ _ _ us hl => match us, hl with | [_, _, _, _], _ => rfl) fun fd F => ok_sets T F
theorem fmk_sets (T : Px K mg) : FnMK P w K mg base 7 "sets" ["self", "clock", "moment", "jump"] ["jump", "moment", "clock"] List.reverse (spX K R_sets) := FnMK.mk_ T m_Post_sets rfl (by decide) (fun _ _ _ _ _ _ us ws h1 h2 => match us, ws, h1, h2 with | [_], [_, _, _], _, _ => rfl) fun fd F => ok_sets T F
inductive R_calls_false : PSt → List PyData → PyData → PSt → Prop
  | mk {v : PV} {l : Addr} {k : Int} (hk : k ∈ v.tl.map Told.no) (hl : v.tl.length ≤ 100) : R_calls_false (v.st l) [.int k] .none ((v.drop k).st l)
theorem sc_Post_calls_false : FnScope ["self", "number", "told", "one"] ["self", "number"] (defScope s_Post_calls_false) := ⟨rfl, rfl, rfl, by decide +kernel, rfl, by decide +kernel, by decide +kernel⟩
theorem ok_calls_false (T : Px K mg) {dvs : List V} {fd : FuncData} (F : FunD K d_Post_calls_false.name d_Post_calls_false.qual (defArgs d_Post_calls_false.st) (defBody d_Post_calls_false.st) (defScope d_Post_calls_false.st) dvs [] d_Post_calls_false.f fd) : FnOk P w K mg base CX0 2 d_Post_calls_false.f fd ["self", "number"] (spX K R_calls_false) := by
  refine fn_bodyX F sc_Post_calls_false (by rintro _ _ _ _ ⟨⟩; rfl) fun cdv A outer s H E hr a st ds d st' pd hR hpd => ?_
  cases hR with
  | @mk v l k hk hl =>
    have T' := T.toTx
    have em : v.tl.map (fun t => PyData.int t.no) = (v.tl.map Told.no).map .int := by rw [List.map_map] <;> rfl
    refine sm_cons (sm_of (sd_if (wq_q (wq_or (pq_not (pq_val (pd_call (fn_is_whole T') hr (by decide) (pds_cons (pd_var 1) pds_nil) .mk))) fun h1 => (wq_or1 (p := false) (pq_cmp ((cd_notInL (n := k) (ns := v.tl.map Told.no) (pd_var 1) (by rw [← em]; exact (pl_r (pl_lc (own := [("one", 3)]) (lc_map dTold v.tl (fun t => .int t.no) (fun x hx => ⟨_, (fun _ _ _ _ _ => (gd_name 3 sc_Post_calls_false.nd)), (fun _ _ _ _ _ => qs_nil), fun _ _ _ _ _ _ => (pd_ix (pd_var 3) pd_int)⟩) (by omega) (id_tup (pd_told (s := v.st l) T 0))) sc_Post_calls_false.nd (blkOk_by rfl))))).to (by rw [decide_eq_true hk] <;> rfl)))))) (fun h2 => by cases h2) (fun _ => sds_nil ?_)))
    refine sm_cons (sm_of (sd_asg (d := dTolds (v.drop k).tl) 2 sc_Post_calls_false.nd (pd_tupL (pl_r (pl_lc (own := [("one", 3)]) (lc_of (is := [3]) dTold v.tl (fun t => !PyData.eqv (.int t.no) (.int k)) dTold (fun x hx => ⟨_, (fun _ _ _ _ _ => (gd_name 3 sc_Post_calls_false.nd)), (fun _ _ _ _ _ => qs_one (pq_cmp (cd_ne' hr (pd_ix (pd_var 3) pd_int) (pd_var 1)))), fun _ _ _ _ _ _ => (pd_var 3)⟩) (by decide) (by omega) (id_tup (pd_told (s := v.st l) T 0))) sc_Post_calls_false.nd (blkOk_by rfl))) T'.tuple) ?_))
    refine sm_cons (sm_exprX (px_meth (G1 := []) (D1 := []) (D2 := []) (s := v.st l) (ds := [dClks v.cs, dTolds (v.drop k).tl, .int v.n]) [] T 0 (fm_become T) (fun _ => rfl) hr (by decide) (pds_cons (pd_clocks (s := v.st l) T 0) (pds_cons (pd_var 2) (pds_cons (pd_next (s := v.st l) T 0) pds_nil))) .mk hpd True.intro True.intro) fun z => ?_)
    exact sm_nil fun H0 t H x0 E => ⟨⟨z, gx_of (s := v.st l) (s' := (v.drop k).st l) rfl x0 E⟩, rfl⟩
theorem fmk_calls_false (T : Px K mg) : FnMK P w K mg base 2 "calls_false" ["self", "number"] ["number"] List.reverse (spX K R_calls_false) := FnMK.mk_ T m_Post_calls_false rfl (by decide) (fun _ _ _ _ _ _ us ws h1 h2 => match us, ws, h1, h2 with | [_], [_], _, _ => rfl) fun fd F => ok_calls_false T F
end
end Gk
end

section
set_option linter.all false
set_option maxRecDepth 100000
namespace Gk
open PySem PySem.Spec PyProof.Rows L2 Evl
/-! ## a new post -/
def FsOk (K : PySem.W.Frag) (H : Hp) : List (Str × PyData) → List (Str × V) → Prop
  | [], fs => fs = []
  | (x, d) :: r, fs => ∃ v fs', fs = (x, v) :: fs' ∧ Ft K H d v ∧ FsOk K H r fs'
theorem FsOk.monoT {K : PySem.W.Frag} {H H' : Hp} (t : SqK K H H') : ∀ {r : List (Str × PyData)} {fs : List (Str × V)}, FsOk K H r fs → FsOk K H' r fs
  | [], _, h => h
  | _ :: _, _, ⟨v, fs', e, f, w⟩ => ⟨v, fs', e, f.monoT t, FsOk.monoT t w⟩
theorem FsOk.len {K : PySem.W.Frag} {H : Hp} : ∀ {r : List (Str × PyData)} {fs : List (Str × V)}, FsOk K H r fs → fs.length = r.length
  | [], fs, h => by
    have e : fs = [] := h
    subst e
    rfl
  | _ :: _, _, ⟨v, fs', e, f, w⟩ => by
    subst e
    exact congrArg Nat.succ (FsOk.len w)
theorem FsOk.put {K : PySem.W.Frag} {H : Hp} {x : Str} {d : PyData} {v : V} (hf : Ft K H d v) : ∀ {r : List (Str × PyData)} {fs : List (Str × V)}, FsOk K H r fs → (∀ p ∈ r, p.1 ≠ x) → FsOk K H (r ++ [(x, d)]) (putF x v fs)
  | [], fs, h, _ => by
    have e : fs = [] := h
    subst e
    exact ⟨v, [], rfl, hf, rfl⟩
  | (y, dy) :: r, _, ⟨u, fs', e, f, w⟩, hn => by
    subst e
    have ne : ¬ y = x := hn _ (List.mem_cons_self ..)
    show FsOk K H ((y, dy) :: (r ++ [(x, d)])) (if y = x then (y, v) :: fs' else (y, u) :: putF x v fs')
    rw [if_neg ne]
    exact ⟨u, _, rfl, f, FsOk.put hf w fun p hp => hn p (List.mem_cons_of_mem _ hp)⟩
section
variable {X : Cx} {e : Expr} {G : List Slot} {d : PyData} {pos p p' : Pos} {x f : Str} {a : Addr} {rest : List Stmt} {r : List (Str × PyData)}
/-- while the fields are put in -/
def tN (K : PySem.W.Frag) (a : Addr) (H0 : Hp) (G : List Slot) (r : List (Str × PyData)) (cl td : PyData) : TS := fun En t H => Stp [a] H0 H ∧ EnvE K G [] t H ∧ (∃ dx fs, H a = some (.ins PC dx fs) ∧ FsOk K H r fs) ∧
  ∀ t' H' l, Stp [a] H0 H' → H0 l = none → l ≠ a → H' l = some (.lst []) → Ins K H' a PC ⟨cl, td, 0, l⟩ → En.nx t' H'
theorem pe_self {D : Lists} (h : G[0]? = some (.ref a)) (hN : X.N[0]? = some x) (hv : Vis X.env.scope x) (hd : (x == ("__debug__" : Str)) = false) (hcd : (x == ("__classdict__" : Str)) = false) : PE X (.Name x p) (fun t H Q => EnvE X.K G D t H ∧ Q (.ref a) H) :=
  PE.by_ (pe_var hN hv hd hcd) fun t H Q ⟨E, q⟩ => ⟨_, E.rf h, q⟩
theorem sn_fld {H0 : Hp} {cl td : PyData} (T : Px X.K X.mg) (hd : PD X (.ref a :: G) [] e d) (hf : f ∈ (["clocks", "told", "next_number", "past"] : List Str)) (ns : List Str) (h0 : apartL a G) (hrest : PSs X rest (tN X.K a H0 (.ref a :: G) (r ++ [(f, d)]) cl td)) (hi : X.N[0]? = some x := by rfl) (hv : Vis X.env.scope x := by first | exact Or.inl rfl | exact Or.inr (Or.inl rfl) | exact Or.inr (Or.inr rfl)) (hdb : (x == ("__debug__" : Str)) = false := by decide) (hcd : (x == ("__classdict__" : Str)) = false := by decide)
    (hs : swapsWith e (some (.Attribute (.Name x p) f p')) pos.line X.env = pure false := by rfl) (hns : r.map (·.1) = ns := by rfl) (hr' : ∀ y ∈ ns, y ≠ f := by decide) (hl' : ns.length < 4 := by decide) : PSs X (.Assign [.Attribute (.Name x p) f p'] e pos :: rest) (tN X.K a H0 (.ref a :: G) r cl td) :=
  PSs.by_ (pss_cons (ps_fld (pe_self rfl hi hv hdb hcd) hd hs) hrest) fun En t H ⟨st, E, ⟨dx, fs, i1, fo⟩, q⟩ => ⟨E, fun v H1 e1 fv => by
    have hr : ∀ p ∈ r, p.1 ≠ f := fun p hp => hr' p.1 (by rw [← hns]; exact List.mem_map_of_mem hp)
    have hl : r.length < 4 := by rw [← List.length_map (f := fun p : Str × PyData => p.1), hns]; exact hl'
    have E1 := E.mono e1
    have i2 := e1 _ _ i1
    have sq : SqK X.K H1 (L2.upd H1 a (.ins PC dx (putF f v fs))) := sq_stp (A := [a]) (Stp.upd (List.mem_cons_self ..)) fun y hy => by
      rw [List.mem_singleton.mp hy]
      exact .inl ⟨_, _, _, i2⟩
    have s1 : Stp [a] H1 (L2.upd H1 a (.ins PC dx (putF f v fs))) := Stp.upd (List.mem_cons_self ..)
    refine ⟨E1, a, PC, dx, fs, rfl, i2, T.cls, T.noat _ hf, by rw [fo.len]; omega, (st.trans (Stp.ex e1)).trans s1, ⟨?_, List.nodup_nil, fun p hp => (nomatch hp)⟩, ⟨dx, _, upd_same, (FsOk.put fv (fo.monoT (fun _ _ z => ex_t e1 z)) hr).monoT sq⟩, q⟩
    exact slots_noins (a := a) h0 s1 sq E1.slots⟩
where
  slots_noins {K : PySem.W.Frag} {H H' : Hp} {a : Addr} {G : List Slot} {t : L2.St} (h0 : apartL a G) (s1 : Stp [a] H H') (sq : SqK K H H') (S : SlotsOk K H (.ref a :: G) t) : SlotsOk K H' (.ref a :: G) t := by
    obtain ⟨x, r, e, q, w⟩ := S
    refine ⟨x, r, e, q, ?_⟩
    have key : ∀ (G : List Slot) (t : L2.St), apartL a G → SlotsOk K H G t → SlotsOk K H' G t := by
      intro G
      induction G with
      | nil => intro t _ _; exact True.intro
      | cons s G ih =>
        intro t ap h
        obtain ⟨x, r, e, q, w⟩ := h
        cases s with
        | no => exact ⟨x, r, e, True.intro, ih r ap w⟩
        | dat d =>
          obtain ⟨v, q1, q2⟩ := q
          exact ⟨x, r, e, ⟨v, q1, q2.monoT sq⟩, ih r ap w⟩
        | ref b => exact ⟨x, r, e, q, ih r ap w⟩
        | ins b C z =>
          obtain ⟨q, dx, v1, v2, h1, h2, h3⟩ := q
          exact ⟨x, r, e, ⟨q, dx, v1, v2, s1 b _ h1 (fun m => ap.1 (List.mem_singleton.mp m)), h2.monoT sq, h3.monoT sq⟩, ih r ap.2 w⟩
    exact key G r h0 w
/-- self.past = [], the last one -/
theorem sn_last {H0 : Hp} {cl td : PyData} (T : Px X.K X.mg) (hd : PL X (.ref a :: G) [] e []) (hi : X.N[0]? = some x := by rfl) (hv : Vis X.env.scope x := by first | exact Or.inl rfl | exact Or.inr (Or.inl rfl) | exact Or.inr (Or.inr rfl)) (hdb : (x == ("__debug__" : Str)) = false := by decide) (hcd : (x == ("__classdict__" : Str)) = false := by decide)
    (hs : swapsWith e (some (.Attribute (.Name x p) "past" p')) pos.line X.env = pure false := by rfl) : PSs X [.Assign [.Attribute (.Name x p) "past" p'] e pos] (tN X.K a H0 (.ref a :: G) [("clocks", cl), ("told", td), ("next_number", .int 0)] cl td) :=
  PSs.by_ (pss_one (ps_fld (pe_self rfl hi hv hdb hcd) hd hs)) fun En t H ⟨st, E, ⟨dx, fs, i1, fo⟩, q⟩ => ⟨E, fun l vs H1 ln e1 hl fv => by
    have E1 := E.mono e1
    have i2 := e1 _ _ i1
    have ev : vs = [] := fv
    subst ev
    obtain ⟨v1, fs1, rfl, f1, v2, fs2, rfl, f2, v3, fs3, rfl, f3, e4⟩ := fo
    have e5 : fs3 = [] := e4
    have e6 : v3 = .int 0 := f3
    subst e5 e6
    have la : l ≠ a := fun z => by
      rw [z, i1] at ln
      cases ln
    have sq : SqK X.K H1 (L2.upd H1 a (.ins PC dx (putF "past" (.ref l) [("clocks", v1), ("told", v2), ("next_number", .int 0)]))) := sq_stp (A := [a]) (Stp.upd (List.mem_cons_self ..)) fun y hy => by
      rw [List.mem_singleton.mp hy]
      exact .inl ⟨_, _, _, i2⟩
    refine ⟨E1, a, PC, dx, _, rfl, i2, T.cls, T.noat _ (by decide), by show 3 < 1000; omega, q t _ l ((st.trans (Stp.ex e1)).trans (Stp.upd (List.mem_cons_self ..))) ?_ la ?_ ?_⟩
    · cases h0 : H0 l with
      | none => rfl
      | some o =>
        have := st l o h0 fun m => la (List.mem_singleton.mp m)
        rw [ln] at this
        cases this
    · rw [upd_ne la]
      exact hl
    · exact ⟨dx, v1, v2, upd_same, (f1.mono (Ex.tp e1)).monoT sq, (f2.mono (Ex.tp e1)).monoT sq⟩⟩
end
def headS : List Stmt → Stmt
  | s :: _ => s
  | [] => .Pass default
structure Gains (gs : List Rat) : Prop where
  len : gs.length = 6
  ok : ∀ g ∈ gs, -12 ≤ g ∧ g ≤ 12 ∧ Sm g
  h0 : gs.getD 0 0 = 0
abbrev newCs (gs : List Rat) : List Clk := gs.map fun g => ⟨g, []⟩
abbrev newV (gs : List Rat) : PV := ⟨newCs gs, [], 0⟩
def spI (K : PySem.W.Frag) : Sp := fun vs H Q _ => ∃ a dx gs us, vs = .ref a :: us ∧ H a = some (.ins PC dx []) ∧ Fts K H [.tuple (gs.map dP)] us ∧ Gains gs ∧ ∀ H' l, Stp [a] H H' → H l = none → l ≠ a → H' l = some (.lst []) → Ins K H' a PC ((newV gs).st l) → Q .non H'
section
variable {P : Program} {w : World} {K : PySem.W.Frag} {mg : Str → Option Value} {base : Heap}
theorem sc_Post_init : FnScope ["self", "gains", "gain"] ["self", "gains"] (defScope s_Post_init) := ⟨rfl, rfl, rfl, by decide +kernel, rfl, by decide +kernel, by decide +kernel⟩
theorem ok_Post_init (T : Px K mg) {dvs : List V} {fd : FuncData} (F : FunD K d_Post_init.name d_Post_init.qual (defArgs d_Post_init.st) (defBody d_Post_init.st) (defScope d_Post_init.st) dvs [] d_Post_init.f fd) : FnOk P w K mg base CX0 5 d_Post_init.f fd ["self", "gains"] (spI K) := by
  refine FunD.ok F sc_Post_init (fun vs H Q E h => ?_) (fun cdv A outer s H vs Q E hr h => ?_)
  · obtain ⟨a, dx, gs, us, rfl, _, hf, _⟩ := h
    rw [List.length_cons, hf.len] <;> rfl
  · obtain ⟨a, dx, gs, us, rfl, hi, hf, hg, q⟩ := h
    have T' := T.toTx
    have gl := hg.len
    have em : gs.map (fun g => PyData.tuple [dP g, .tuple []]) = (newCs gs).map dClk := by rw [List.map_map] <;> rfl
    have hb : PSs (cxOf CX0 P w K mg base ["self", "gains", "gain"] d_Post_init.qual (defScope d_Post_init.st) d_Post_init.f cdv A outer s H E).nox (defBody d_Post_init.st) (tN K a H [.ref a, .dat (.tuple (gs.map dP)), .no] [] (dClks (newCs gs)) (.tuple [])) := by
      have rest : PSs (cxOf CX0 P w K mg base ["self", "gains", "gain"] d_Post_init.qual (defScope d_Post_init.st) d_Post_init.f cdv A outer s H E).nox ((defBody d_Post_init.st).drop 1) (tN K a H [.ref a, .dat (.tuple (gs.map dP)), .no] [] (dClks (newCs gs)) (.tuple [])) := by
        refine sn_fld T (d := dClks (newCs gs)) (by unfold dClks; rw [← em]; exact (pd_tupL (pl_r (pl_lc (own := [("gain", 2)]) (lc_map dP gs (fun g => .tuple [dP g, .tuple []]) (fun x hx => ⟨_, (fun _ _ _ _ _ => (gd_name 2 sc_Post_init.nd)), (fun _ _ _ _ _ => qs_nil), fun _ _ _ _ _ _ => (pd_tup (pds_cons (pd_var 2) (pds_cons (pd_tup pds_nil) pds_nil)))⟩) (by omega) (id_tup (pd_var 1))) sc_Post_init.nd (blkOk_by rfl))) T'.tuple)) (by decide) [] True.intro ?_
        refine sn_fld T (pd_tup pds_nil) (by decide) ["clocks"] True.intro ?_
        refine sn_fld T (d := .int 0) pd_int (by decide) ["clocks", "told"] True.intro ?_
        exact sn_last T (pl_lst pds_nil)
      have h1 : SD (cxOf CX0 P w K mg base ["self", "gains", "gain"] d_Post_init.qual (defScope d_Post_init.st) d_Post_init.f cdv A outer s H E).nox [] [.ref a, .dat (.tuple (gs.map dP)), .no] [] (headS (defBody d_Post_init.st)) (fun M' G' D' => G' = [.ref a, .dat (.tuple (gs.map dP)), .no] ∧ D' = []) (fun _ => False) :=
        sd_if (pq_not (pq_val (pd_call (fn_are_gains T') hr (by decide) (pds_cons (pd_var 1) pds_nil) (.mk hg.len hg.ok hg.h0)))) (fun h => by cases h) (fun _ => sds_nil ⟨rfl, rfl⟩)
      have hu : PS (cxOf CX0 P w K mg base ["self", "gains", "gain"] d_Post_init.qual (defScope d_Post_init.st) d_Post_init.f cdv A outer s H E).nox (headS (defBody d_Post_init.st)) (fun En t H1 => ∃ H0', tS K H0' [] [.ref a, .dat (.tuple (gs.map dP)), .no] [] (fun M' G' D' => G' = [.ref a, .dat (.tuple (gs.map dP)), .no] ∧ D' = []) (fun _ => False) En t H1) := ⟨fun p s c H En I ⟨H0', q⟩ => (h1 H0').run p s c H En I q⟩
      refine PSs.by_ (pss_cons hu rest) fun En t H1 ⟨st, E1, ⟨dx, fs, i1, fo⟩, q1⟩ => ⟨H1, Ex.refl H1, fun a z => (nomatch z), E1, fun M' G' D' t' H' e1 tp _ E' z => ?_, fun v H' r' _ _ f => f.elim⟩
      obtain ⟨rfl, rfl⟩ := z
      exact ⟨st.trans (Stp.ex e1), E', ⟨dx, fs, e1 _ _ i1, fo.monoT (fun _ _ z => ex_t e1 z)⟩, q1⟩
    refine ⟨_, hb.nox, Stp.refl _ H, ⟨?_, List.nodup_nil, fun p hp => (nomatch hp)⟩, ⟨dx, [], hi, rfl⟩, fun t' H' l s1 l0 la hl ins => q H' l s1 l0 la hl ins⟩
    obtain ⟨v, vs, rfl, f1, e2⟩ := hf
    have e3 : vs = [] := e2
    subst e3
    exact ⟨_, _, rfl, rfl, _, _, rfl, ⟨v, rfl, f1⟩, _, _, rfl, True.intro, True.intro⟩
end
end Gk
end

section
set_option linter.all false
set_option maxRecDepth 100000
namespace Gk
open PySem PySem.Spec PyProof.Rows L2 Evl
section
variable {X : Cx} {e : Expr} {G : List Slot} {D : Lists} {gs : List Rat} {n : Nat} {pos p : Pos} {ks : List Keyword}
def tNew (K : PySem.W.Frag) (G : List Slot) (D : Lists) (gs : List Rat) : TE := fun t H Q => EnvE K G D t H ∧ ∀ a l H', H a = none → H l = none → l ≠ a → Ex H H' → H' l = some (.lst []) → Ins K H' a PC ((newV gs).st l) → Q (.ref a) H'
theorem new_ok {K : PySem.W.Frag} {H H1 : Hp} {vs : List V} {Q : VK} (hg : Gains gs) (e1 : Ex H H1) (f : Fts K H1 [.tuple (gs.map dP)] vs) (q : ∀ a l H', H a = none → H l = none → l ≠ a → Ex H H' → H' l = some (.lst []) → Ins K H' a PC ((newV gs).st l) → Q (.ref a) H')
    (x dx : Addr) (hx : H1 x = none) (hd : H1 dx = none) (ne : dx ≠ x) : spI K (.ref x :: vs) (upd (upd H1 dx (.own x)) x (.ins PC dx [])) (fun v H2 => v = .non ∧ Q (.ref x) H2) E0 := by
  have hx2 : (upd H1 dx (.own x)) x = none := by rw [upd_ne (fun z => ne z.symm)]; exact hx
  have ex : Ex H1 (upd (upd H1 dx (.own x)) x (.ins PC dx [])) := (Ex.new hd).trans (Ex.new hx2)
  refine ⟨x, dx, gs, vs, rfl, upd_same, f.mono (Ex.tp ex), hg, fun H' l st l0 la hl hi => ⟨rfl, q x l H' (fresh_back e1 hx) ?_ la ?_ hl hi⟩⟩
  · refine fresh_back e1 ?_
    rw [upd_ne la] at l0
    by_cases z : l = dx
    · subst z
      rw [upd_same] at l0
      cases l0
    · rw [upd_ne z] at l0
      exact l0
  · refine e1.trans fun b o hb => st b o (ex b o hb) fun m => ?_
    rw [List.mem_singleton.mp m, hx] at hb
    cases hb
theorem px_new (T : Px X.K X.mg) (hg : Gains gs) (hr : Room n X.A) (hk : 6 ≤ n) (hd : PD X G D e (.tuple (gs.map dP))) (hgl : Gl X "Post" := by rfl) (he : starEach [e] X.env = (false, eval e X.env) :: starEach [] X.env := by rfl) (hpl : (backTo pos (starEach [] X.env)).any (·.1) = false := by rfl) :
    PE X (.Call (.Name "Post" p) [e] [] pos) (tNew X.K G D gs) := by
  obtain ⟨fd, f⟩ := T.fn d_Post_init m_Post_init rfl
  have B := f.bindsN (ps := ["self", "gains"]) (fun _ _ _ _ _ _ us hl => match us, hl with | [_, _], _ => rfl)
  exact PE.by_ (pe_make T.makes (ok_Post_init T f) (hr.mono hk) hgl (T.at_ g_Post) B .nil pass0 (pa_cons hd pa_nil he) (by decide) he hpl) fun t H Q ⟨E, q⟩ => ⟨E, fun v H1 e1 fv => fun x dx hx hdx ne => new_ok hg e1 (Fts.one fv) q x dx hx hdx ne⟩
theorem px_newK (T : Px X.K X.mg) (hg : Gains gs) (hr : Room n X.A) (hk : 6 ≤ n) (hd : PKd X G D ks [.tuple (gs.map dP)]) (hgl : Gl X "Post" := by rfl) (hall : (backToKw pos (keywordEach ks X.env)).all (·.1.isSome) = true := by rfl) (hks : (backToKw pos (keywordEach ks X.env)).filterMap (·.1) = (["gains"] : List Str) := by rfl)
    (hpl : ((backTo pos (starEach [] X.env)).any (·.1) || (backToKw pos (keywordEach ks X.env)).any (·.1.isNone)) = false := by rfl) : PE X (.Call (.Name "Post" p) [] ks pos) (tNew X.K G D gs) := by
  obtain ⟨fd, f⟩ := T.fn d_Post_init m_Post_init rfl
  have KB : KBn X.K fd ["self", "gains"] 1 ["gains"] (fun us ws => us ++ ws) (fun vs zs => vs ++ zs) := by
    refine ⟨fun s us ws X hu hw => ?_, fun r1 r2 => r1.append r2⟩
    obtain ⟨oc, od, dV, kV, doc, pm, an, cdv, ct, osl, rfl, lk, hcd, hD, hK⟩ := f.ex
    rcases hD with ⟨_, rfl⟩ | ⟨e, _⟩
    · exact .of_eq (match us, ws, hu, hw with | [_], [_], _, _ => rfl)
    · exact absurd rfl e
  exact PE.by_ (pe_makeK0 T.makes (ok_Post_init T f) (hr.mono hk) hgl (T.at_ g_Post) KB pass0 hd hall hks (by decide) hpl) fun t H Q ⟨E, q⟩ => ⟨E, fun zs H1 e1 fz => ⟨rfl, by rw [fz.len] <;> rfl, fun x dx hx hdx ne => new_ok hg e1 fz q x dx hx hdx ne⟩⟩
end
section
variable {P : Program} {w : World} {K : PySem.W.Frag} {mg : Str → Option Value} {base : Heap}
inductive R_len : PSt → List PyData → Res → Prop
  | mk {v : PV} {l : Addr} : R_len (v.st l) [] (.dat (.int (v.tl.length : Nat)))
theorem sc_Post_len : FnScope ["self"] ["self"] (defScope s_Post_len) := ⟨rfl, rfl, rfl, by decide +kernel, rfl, by decide +kernel, by decide +kernel⟩
theorem fm_len (T : Px K mg) : FnM P w K mg base 1 "__len__" ["self"] [] (spM K R_len) := by
  refine FnM.mk_ T m_Post_len rfl (by decide) (fun _ _ _ _ _ _ us hl => match us, hl with | [_], _ => rfl) fun fd F => fn_bodyM F sc_Post_len (by rintro _ _ _ ⟨⟩; rfl) fun cdv A outer s H E hr a st ds r hR => ?_
  cases hR with
  | @mk v l =>
    refine sds_cons (sd_ret (pd_lenT (pd_told (s := v.st l) T 0) T.len) ?_)
    rw [List.length_map]
end
section
variable {X : Cx} {n : Nat} {G : List Slot} {D : Lists} {a : Addr} {v : PV} {l : Addr} {x : Str} {p pn pos : Pos}
theorem call_lenP (T : Px X.K X.mg) (hr : Room (n + 1) X.A) (hn : 1 ≤ n) : CallR X (.builtin "len") (fun xs H Q => ∃ a v l, xs = [.ref a] ∧ Ins X.K H a PC (PV.st v l) ∧ v.tl.length < 2 ^ 62 ∧ ∀ H', Ex H H' → Q (.int (v.tl.length : Nat)) H') := by
  intro pins s σ H xs us Q I r h
  obtain ⟨a, v, l, rfl, hi, hlt, q⟩ := h
  obtain ⟨u, rfl, ru⟩ := vals1 r
  cases ru
  obtain ⟨f, fd, dd, hM, F, hB, hV⟩ := (fm_len (P := X.prog) (w := X.w) (base := X.base) T).ex
  have hi0 := hi
  obtain ⟨dx, v1, v2, h1, _, _⟩ := hi0
  obtain ⟨mA, J, _⟩ := ins_get I.hok h1
  obtain ⟨od, J, _⟩ := J.look
  obtain ⟨m, hF⟩ := I.fr
  refine PySem.W.len_K hF I.ok.mod.kin J hM.at_ hM.fn ?_
  cases hV
  have hsp : spM X.K R_len [.ref a] H (fun w H' => w = .int (v.tl.length : Nat) ∧ Ex H H') E0 := ⟨a, v.st l, [], [], _, rfl, hi, rfl, .mk, fun w H' e rw => ⟨rw, e⟩⟩
  have e0 : Env0 X.prog X.w X.K X.mg X.base X.A.in1 X.stack s H := by
    have e := I.env0
    exact ⟨e.frames, e.mod, e.bs, e.bsz, e.funs, e.frf, e.hok, e.bare⟩
  have r2 : Vals [V.ref a] [Value.ref a] := .cons rfl .nil
  have hl := F.len _ _ _ _ hsp
  refine wpAny_call (codeAny_mono (F.run X.A.in1 X.stack s H ⟨[.ref a], []⟩ [.ref a] [.ref a] _ E0 (hr.in1.mono hn) e0 (by
    have := hB s [.ref a] I.kIn (by simpa using hl)
    simpa using this) r2 hsp) fun r s' hq => ?_)
  cases r with
  | error e => exact pass0 pins σ H s e s' I hq
  | ok fl =>
    cases fl with
    | ret w =>
      obtain ⟨z, H', I', rz, ez, ex⟩ := I.after hq
      subst ez
      obtain ⟨t, rfl⟩ := rz
      refine ⟨⟨by omega, by omega⟩, ?_⟩
      exact ⟨.int (v.tl.length : Nat), H', I'.tok _, ⟨_, rfl⟩, q H' ex⟩
    | next => exact False.elim hq
    | brk => exact False.elim hq
    | cont => exact False.elim hq
theorem pd_lenP (T : Px X.K X.mg) (hr : Room (n + 1) X.A) (hn : 1 ≤ n) (i : Nat) (hlt : v.tl.length < 2 ^ 62) (h : G[i]? = some (.ins a PC (v.st l)) := by rfl) (hN : X.N[i]? = some x := by rfl) (hv : Vis X.env.scope x := by first | exact Or.inl rfl | exact Or.inr (Or.inl rfl) | exact Or.inr (Or.inr rfl)) (hd : (x == ("__debug__" : Str)) = false := by decide) (hcd : (x == ("__classdict__" : Str)) = false := by decide)
    (hg : Gl X "len" := by rfl) (hs : starEach [.Name x p] X.env = (false, eval (.Name x p) X.env) :: starEach [] X.env := by rfl) : PD X G D (.Call (.Name "len" pn) [.Name x p] [] pos) (.int (v.tl.length : Nat)) :=
  PE.by_ (pe_callB (call_lenP T hr hn) hg T.len PySem.boot_len (pa_cons (pe_ins i h hN hv hd hcd) pa_nil hs) (by decide) (by decide) hs (by rfl)) fun t H Q ⟨E, q⟩ => ⟨E, a, v, l, rfl, (E.ins h).2, hlt, fun H' e => q _ H' e rfl⟩
end
end Gk
end

section
set_option linter.all false
set_option maxRecDepth 100000
namespace Gk
open PySem PySem.Spec PyProof.Rows L2 Evl
section
variable {X : Cx} {G : List Slot} {D : Lists} {a b : Expr} {d : PyData} {ds : List PyData} {k : Nat}
theorem cd_same (hr : Room k X.A) (s : sh 9 d = true) (ha : PD X G D a d) (hb : PD X G D b d) : CD X G D .NotEq a b false := (cd_ne' hr ha hb s s).to (ne_self s)
theorem cd_sameE (hr : Room k X.A) (s : sh 9 d = true) (ha : PD X G D a d) (hb : PD X G D b d) : CD X G D .Eq a b true := (cd_eq' hr ha hb s s).to (eqv_self s)
theorem cd_sameL (hr : Room k X.A) (s : sh 9 (.list ds) = true) (ha : PR X G D a ds) (hb : PR X G D b ds) : CD X G D .NotEq a b false := (cd_neLL hr ha hb s s).to (by rw [eqv_self s] <;> rfl)
theorem cd_sameLE (hr : Room k X.A) (s : sh 9 (.list ds) = true) (ha : PR X G D a ds) (hb : PR X G D b ds) : CD X G D .Eq a b true := (cd_eqLL hr ha hb s s).to (eqv_self s)
theorem cd_notT (ha : PD X G D a (.bool true)) (hb : PD X G D b (.bool true)) : CD X G D .IsNot a b false := (cd_notB ha hb).to rfl
theorem cd_isT (ha : PD X G D a (.bool true)) (hb : PD X G D b (.bool true)) : CD X G D .Is a b true := (cd_isB ha hb).to rfl
end
section
variable {P : Program} {w : World} {K : PySem.W.Frag} {mg : Str → Option Value} {base : Heap}
theorem ok_is_part (T : Tx K mg) {dvs : List V} {fd : FuncData} (F : FunD K d_is_part.name d_is_part.qual (defArgs d_is_part.st) (defBody d_is_part.st) (defScope d_is_part.st) dvs [] d_is_part.f fd) : FnOk P w K mg base CX0 2 d_is_part.f fd ["thing"] (spD K R_is_part) := by
  refine fn_body F sc_is_part (by rintro _ _ ⟨⟩ <;> rfl) fun cdv A outer s H E hr ds r hR => ?_
  cases hR with
  | @mk q =>
    refine sds_cons (sd_if (wq_q (wq_or (pq_not (pq_val (pd_isT T.toTxt (pd_var 0)))) fun h1 => (wq_or (pq_cmp (cd_ne' hr (pd_lenT (pd_var 0) T.len) pd_int)) fun h2 => (wq_or (pq_not (pq_val (pd_call (fn_is_whole T) hr (by decide) (pds_cons (pd_ix (pd_var 0) pd_int) pds_nil) .mk))) fun h3 => (wq_or1 (pq_not (pq_val (pd_call (fn_is_whole T) hr (by decide) (pds_cons (pd_ix (pd_var 0) pd_int) pds_nil) .mk))))))))
      (fun h4 => by cases h4) (fun h5 => sds_nil ?_))
    refine sds_cons (sd_ret (pd_and (pd_cmp (cd_gt (pd_ix (pd_var 0) pd_int) pd_int)) fun h6 => (pd_one (pd_cmp (cd_eq' hr (pd_call (fn_shared T) hr (by decide) (pds_cons (pd_ix (pd_var 0) pd_int) (pds_cons (pd_ix (pd_var 0) pd_int) pds_nil)) (.mk (Int.natCast_pos.mpr q.den_pos))) pd_int)))) ?_)
    rw [gcd_one, decide_eq_true (Int.natCast_pos.mpr q.den_pos)] <;> rfl
  | non =>
    exact (sds_cons (sd_if (wq_q (wq_or (q := true) (pq_not (pq_val (pd_isT T.toTxt (pd_var 0)))) fun h1 => by cases h1)) (fun h4 => (sds_cons (sd_ret pd_bl rfl))) (fun h5 => by cases h5)))
theorem fk_is_part (T : Tx K mg) : FnK P w K mg base 2 "is_part" ["thing"] ["thing"] List.reverse (spD K R_is_part) := FnK.mk_ T m_is_part rfl g_is_part (fun _ _ _ _ _ _ ws hl => match ws, hl with | [_], _ => rfl) fun fd F => ok_is_part T F
inductive R_law_parts : List PyData → Res → Prop
  | mk {p q : Rat} (h : Sm p) (k : Sm q) : R_law_parts [dP p, dP q] (.dat (.bool true))
theorem sc_law_parts : FnScope ["_law_mine", "_law_yours"] ["_law_mine", "_law_yours"] (defScope s_law_parts_right) := ⟨rfl, rfl, rfl, by decide +kernel, rfl, by decide +kernel, by decide +kernel⟩
theorem fn_law_parts (T : Tx K mg) : Fn P w K mg base 5 "_law_parts_right" ["_law_mine", "_law_yours"] [] (spD K R_law_parts) := by
  refine Fn.mk_ T m_law_parts_right rfl g_law_parts_right (fun _ _ _ _ _ _ us hl => match us, hl with | [_, _], _ => rfl) fun fd F => fn_body F sc_law_parts (by rintro _ _ ⟨⟩; rfl) fun cdv A outer s H E hr ds r hR => ?_
  cases hR with
  | @mk p q h k =>
    have q9 : ((q.den : Int)).natAbs < 2 ^ 9000 := by rw [Int.natAbs_natCast]; exact Nat.lt_of_lt_of_le k.2 (Nat.pow_le_pow_right (by decide) (by decide))
    have qp : 0 < (q.den : Int) := Int.natCast_pos.mpr q.den_pos
    refine sds_cons (sd_if (b := false) (wq_q (wq_or (p := false) (pq_cmp (cd_same hr sh_dP (pd_callK (fk_part_of T) hr (by decide) (kd_cons (pd_ix (pd_var 1) pd_int) (kd_cons (pd_ix (pd_var 0) pd_int) kd_nil)) (.mk qp q9)) (pd_call (fn_part_of T) hr (by decide) (pds_cons (pd_ix (pd_var 0) pd_int) (pds_cons (pd_ix (pd_var 1) pd_int) pds_nil)) (.mk qp q9)))) fun h1 => (wq_or1 (p := false) (pq_cmp (cd_notT (pd_callK (fk_is_part T) hr (by decide) (kd_cons (pd_var 0) kd_nil) .mk) pd_bl))))) (fun h2 => by cases h2) (fun h2 => sds_nil ?_))
    refine sds_cons (sd_if (b := false) (wq_q (wq_or (p := false) (pq_cmp (cd_same hr sh_dP (pd_callK (fk_added T) hr (by decide) (kd_cons (pd_var 1) (kd_cons (pd_var 0) kd_nil)) (.mk h k)) (pd_call (fn_added T) hr (by decide) (pds_cons (pd_var 0) (pds_cons (pd_var 1) pds_nil)) (.mk h k)))) fun h3 => (wq_or1 (p := false) (pq_cmp (cd_same hr sh_dP (pd_callK (fk_less T) hr (by decide) (kd_cons (pd_var 1) (kd_cons (pd_var 0) kd_nil)) (.mk h k)) (pd_call (fn_less T) hr (by decide) (pds_cons (pd_var 0) (pds_cons (pd_var 1) pds_nil)) (.mk h k))))))) (fun h4 => by cases h4) (fun h4 => sds_nil ?_))
    refine sds_cons (sd_if (b := false) (pq_cmp (cd_same hr sh_dP (pd_callK (fk_times T) hr (by decide) (kd_cons (pd_var 1) (kd_cons (pd_var 0) kd_nil)) (.mk h k)) (pd_call (fn_times T) hr (by decide) (pds_cons (pd_var 0) (pds_cons (pd_var 1) pds_nil)) (.mk h k)))) (fun h5 => by cases h5) (fun h5 => sds_nil ?_))
    exact sds_cons (sd_ret (pd_cmp (cd_sameE hr sh_bool (pd_callK (fk_is_less T) hr (by decide) (kd_cons (pd_var 1) (kd_cons (pd_var 0) kd_nil)) (.mk h k)) (pd_call (fn_is_less T) hr (by decide) (pds_cons (pd_var 0) (pds_cons (pd_var 1) pds_nil)) (.mk h k)))) rfl)
inductive R_law_dials : List PyData → Res → Prop
  | mk {c : Clk} {m h e : Rat} (hc : ClkOk c) (hm : Sk 60 m) (h0 : 0 ≤ m) (hh : Sk 60 h) (he : Sk 60 e) : R_law_dials [dClk c, dP m, dP h, dP e] (.dat (.bool true))
theorem sc_law_dials : FnScope ["_law_dial_here", "_law_when", "_law_shown", "_law_own"] ["_law_dial_here", "_law_when", "_law_shown", "_law_own"] (defScope s_law_dials_right) := ⟨rfl, rfl, rfl, by decide +kernel, rfl, by decide +kernel, by decide +kernel⟩
theorem sh_set {s : Rat × Rat} {n : Nat} : sh (n + 2) (dSet s) = true := sh_two sh_dP sh_dP
theorem sh_moms {c : Clk} {h o : Rat} : sh 9 (.list ((momsD c h o).map dP)) = true := sh_lst (n := 8) fun d hd => by
  obtain ⟨x, _, rfl⟩ := List.mem_map.mp hd
  exact sh_dP
theorem sh_back {c : Clk} {e : Rat} : sh 9 (.list (backD c e)) = true := sh_lst (n := 8) fun d hd => by
  obtain ⟨x, _, rfl⟩ := List.mem_map.mp hd
  exact sh_set
theorem sh_skip {c : Clk} {e : Rat} : sh 9 (.list (skipD c e)) = true := sh_lst (n := 8) fun d hd => by
  obtain ⟨x, _, rfl⟩ := List.mem_map.mp hd
  exact sh_set
set_option maxHeartbeats 1000000 in
theorem fn_law_dials (T : Tx K mg) : Fn P w K mg base 8 "_law_dials_right" ["_law_dial_here", "_law_when", "_law_shown", "_law_own"] [] (spD K R_law_dials) := by
  refine Fn.mk_ T m_law_dials_right rfl g_law_dials_right (fun _ _ _ _ _ _ us hl => match us, hl with | [_, _, _, _], _ => rfl) fun fd F => fn_body F sc_law_dials (by rintro _ _ ⟨⟩; rfl) fun cdv A outer s H E hr ds r hR => ?_
  cases hR with
  | @mk c m h e hc hm h0 hh he =>
    have z60 : Sk 60 0 := sk_zero (by decide)
    refine sds_cons (sd_if (b := false) (wq_q (wq_or (p := false) (pq_cmp (cd_notT (pd_callK (fk_is_clock T) hr (by decide) (kd_cons (pd_var 0) kd_nil) (.mk hc)) pd_bl)) fun h1 => (wq_or1 (p := false) (pq_cmp (cd_same hr sh_dP (pd_callK (fk_drift T) hr (by decide) (kd_cons (pd_var 1) (kd_cons (pd_var 0) kd_nil)) (.mk hc hm h0)) (pd_call (fn_drift T) hr (by decide) (pds_cons (pd_var 0) (pds_cons (pd_var 1) pds_nil)) (.mk hc hm h0))))))) (fun h2 => by cases h2) (fun h2 => sds_nil ?_))
    refine sds_cons (sd_if (b := false) (pq_cmp (cd_same hr sh_dP (pd_callK (fk_shown_at T) hr (by decide) (kd_cons (pd_var 3) (kd_cons (pd_var 1) (kd_cons (pd_var 0) kd_nil))) (.mk (e := some e) hc hm h0 he)) (pd_call (fn_shown_at T) hr (by decide) (pds_cons (pd_var 0) (pds_cons (pd_var 1) (pds_cons (pd_var 3) pds_nil))) (.mk (e := some e) hc hm h0 he)))) (fun h3 => by cases h3) (fun h3 => sds_nil ?_))
    refine sds_cons (sd_if (b := false) (pq_cmp (cd_same (d := dP (shownD c m 0)) hr sh_dP (pd_callK (fk0_shown_at T) hr (by decide) (kd_cons (pd_var 1) (kd_cons (pd_var 0) kd_nil)) (.mk (e := none) hc hm h0 z60)) (pd_call (fn_shown_at T) hr (by decide) (pds_cons (pd_var 0) (pds_cons (pd_var 1) (pds_cons (pd_tup (pds_cons pd_int (pds_cons pd_int pds_nil))) pds_nil))) (.mk (e := some 0) hc hm h0 z60)))) (fun h4 => by cases h4) (fun h4 => sds_nil ?_))
    refine sds_cons (sd_if (b := false) (pq_cmp (cd_sameL hr sh_moms (pl_r (pl_callK (fk_moments_of T) hr (by decide) (kd_cons (pd_var 3) (kd_cons (pd_var 2) (kd_cons (pd_var 0) kd_nil))) (.mk (e := some e) hc hh he))) (pl_r (pl_call (fn_moments_of T) hr (by decide) (pds_cons (pd_var 0) (pds_cons (pd_var 2) (pds_cons (pd_var 3) pds_nil))) (.mk (e := some e) hc hh he))))) (fun h5 => by cases h5) (fun h5 => sds_nil ?_))
    refine sds_cons (sd_if (b := false) (pq_cmp (cd_sameL (ds := (momsD c h 0).map dP) hr sh_moms (pl_r (pl_callK (fk0_moments_of T) hr (by decide) (kd_cons (pd_var 2) (kd_cons (pd_var 0) kd_nil)) (.mk (e := none) hc hh z60))) (pl_r (pl_call (fn_moments_of T) hr (by decide) (pds_cons (pd_var 0) (pds_cons (pd_var 2) (pds_cons (pd_tup (pds_cons pd_int (pds_cons pd_int pds_nil))) pds_nil))) (.mk (e := some 0) hc hh z60))))) (fun h6 => by cases h6) (fun h6 => sds_nil ?_))
    refine sds_cons (sd_if (b := false) (wq_q (wq_or (p := false) (pq_cmp (cd_sameL hr sh_back (pl_r (pl_callK (fk_turned_back T) hr (by decide) (kd_cons (pd_var 3) (kd_cons (pd_var 0) kd_nil)) (.mk (e := some e) hc he))) (pl_r (pl_call (fn_turned_back T) hr (by decide) (pds_cons (pd_var 0) (pds_cons (pd_var 3) pds_nil)) (.mk (e := some e) hc he))))) fun h7 => (wq_or1 (p := false) (pq_cmp (cd_sameL hr sh_back (pl_r (pl_callK (fk0_turned_back T) hr (by decide) (kd_cons (pd_var 0) kd_nil) (.mk (e := none) hc z60))) (pl_r (pl_callD [.none] (fn0_turned_back T) (fun _ => Fts.one (d := PyData.none) rfl) hr (by decide) (pds_cons (pd_var 0) pds_nil) (.mk (e := none) hc z60)))))))) (fun h8 => by cases h8) (fun h8 => sds_nil ?_))
    exact sds_cons (sd_ret (pd_and (pd_cmp (cd_sameLE hr sh_skip (pl_r (pl_callK (fk_skipped T) hr (by decide) (kd_cons (pd_var 3) (kd_cons (pd_var 0) kd_nil)) (.mk (e := some e) hc he))) (pl_r (pl_call (fn_skipped T) hr (by decide) (pds_cons (pd_var 0) (pds_cons (pd_var 3) pds_nil)) (.mk (e := some e) hc he))))) fun h9 => (pd_one (pd_cmp (cd_sameLE (ds := skipD c 0) hr sh_skip (pl_r (pl_callK (fk0_skipped T) hr (by decide) (kd_cons (pd_var 0) kd_nil) (.mk (e := none) hc z60))) (pl_r (pl_call (fn_skipped T) hr (by decide) (pds_cons (pd_var 0) (pds_cons (pd_tup (pds_cons pd_int (pds_cons pd_int pds_nil))) pds_nil)) (.mk (e := some 0) hc z60))))))) rfl)
end
end Gk
end

section
set_option linter.all false
set_option maxRecDepth 100000
namespace Gk
open PySem PySem.Spec PyProof.Rows L2 Evl
theorem sh_fbr {row : List Rat} {n : Nat} : ∀ {ts : List Tel} {k : Nat}, sh n (fbr row k ts) = true
  | [], _ => sh_non
  | t :: ts, k => by
    unfold fbr
    split
    · exact sh_fbr
    · exact sh_int
theorem sh_wayO {e : Ent} {n : Nat} : sh (n + 2) (dWayO e) = true := by
  cases e with
  | none => exact sh_non
  | some q => exact sh_way
theorem sh_row {row : List Rat} {n : Nat} : sh (n + 2) (dRow row) = true := sh_map fun _ _ => sh_dP
theorem sh_paper {S : List Step} {c n : Nat} : sh (n + 3) (paperD S c) = true := by
  refine sh_tag sh_wayO sh_wayO ?_ ?_
  · unfold leastD
    cases entD S c with
    | none => exact sh_nI
    | some _ => exact sh_row
  · unfold mostD
    cases entU S c with
    | none => exact sh_nI
    | some _ => exact sh_row
theorem sh_best {o : Option (Nat × Rat)} {n : Nat} : sh (n + 2) (dBest o) = true := by
  cases o with
  | none => exact sh_non
  | some q => exact sh_two sh_int sh_dP
section
variable {P : Program} {w : World} {K : PySem.W.Frag} {mg : Str → Option Value} {base : Heap}
inductive R_law_sheets : List PyData → Res → Prop
  | mk {D M : Nat} {ts : List Tel} {row : List Rat} {c : Nat} (z : Sz2 D M) (h : Tels D M ts) (hn : NN (stepsOf ts)) (g : RowOk D M row) (g0 : row.getD 0 0 = 0) (hc : 1 ≤ c) (h6 : c < 6) : R_law_sheets [dTels ts, dRow row, .int c] (.dat (.bool true))
theorem sc_law_sheets : FnScope ["_law_some_here", "_law_sheet", "_law_which", "_law_told_here"] ["_law_some_here", "_law_sheet", "_law_which"] (defScope s_law_sheets_right) := ⟨rfl, rfl, rfl, by decide +kernel, rfl, by decide +kernel, by decide +kernel⟩
set_option maxHeartbeats 1000000 in
theorem fn_law_sheets (T : Tx K mg) : Fn P w K mg base 9 "_law_sheets_right" ["_law_some_here", "_law_sheet", "_law_which"] [] (spD K R_law_sheets) := by
  refine Fn.mk_ T m_law_sheets_right rfl g_law_sheets_right (fun _ _ _ _ _ _ us hl => match us, hl with | [_, _, _], _ => rfl) fun fd F => fn_body F sc_law_sheets (by rintro _ _ ⟨⟩; rfl) fun cdv A outer s H E hr ds r hR => ?_
  cases hR with
  | @mk D0 M0 ts row c z h hn g g0 hc h6 =>
    have z1 := z.toSz
    have ht : TelOk D0 M0 ⟨0, 1, some 0, none⟩ := by
      refine ⟨by show 0 < 6; omega, by show 1 < 6; omega, by show (0 : Nat) ≠ 1; omega, .inl (by intro q; cases q), fun a b _ q => (by cases q), fun a q => ?_, fun a q => (by cases q)⟩
      have e : (0 : Rat) = a := Option.some.inj q
      rw [← e]
      exact Gr.zero
    have p0 := hn.pot
    refine sds_cons (sd_if (b := false) (wq_q (wq_or (p := false) (pq_cmp (cd_notT (pd_callK (fk_are_tellings T) hr (by decide) (kd_cons (pd_var 0) kd_nil) (.mk z1 h)) pd_bl)) fun h1 => (wq_or1 (p := false) (pq_cmp (cd_notT (pd_callK (fk_is_telling T) hr (by decide) (kd_cons (pd_tup (pds_cons pd_int (pds_cons pd_int (pds_cons (pd_tup (pds_cons pd_int (pds_cons pd_int pds_nil))) (pds_cons pd_non pds_nil))))) kd_nil) (.mk z1 ht)) pd_bl))))) (fun h2 => by cases h2) (fun h2 => sds_nil ?_))
    refine sds_cons (sd_if (b := false) (wq_q (wq_or (p := false) (pq_cmp (cd_same hr sh_fbr (pd_callK (fk_first_broken T) hr (by decide) (kd_cons (pd_var 1) (kd_cons (pd_var 0) kd_nil)) (.mk z1 h g g0)) (pd_call (fn_first_broken T) hr (by decide) (pds_cons (pd_var 0) (pds_cons (pd_var 1) pds_nil)) (.mk z1 h g g0)))) fun h3 => (wq_or1 (p := false) (pq_val (pd_callK (fk_is_ring T) hr (by decide) (kd_cons (pd_tup pds_nil) (kd_cons (pd_var 0) kd_nil)) (.no z1 h)))))) (fun h4 => by cases h4) (fun h4 => sds_nil ?_))
    refine sds_cons (sd_if (b := false) (pq_cmp (cd_same (d := .tuple [.int c, dP 0]) hr (sh_two sh_int sh_dP) (pd_callK (fk_way_of T) hr (by decide) (kd_cons (pd_tup pds_nil) (kd_cons (pd_var 2) (kd_cons (pd_var 0) kd_nil))) (.mk (ws := []) z1 h h6 True.intro (by decide))) (pd_call (fn_way_of T) hr (by decide) (pds_cons (pd_var 0) (pds_cons (pd_var 2) (pds_cons (pd_tup pds_nil) pds_nil))) (.mk (ws := []) z1 h h6 True.intro (by decide))))) (fun h5 => by cases h5) (fun h5 => sds_nil ?_))
    refine sds_cons (sd_if (b := false) (wq_q (wq_or (p := false) (pq_cmp (cd_notT (pd_callK (fk_agree T) hr (by decide) (kd_cons (pd_var 0) kd_nil) (.mk z1 h p0)) pd_bl)) fun h6 => (wq_or1 (p := false) (pq_cmp (cd_notN (d := .none) (pd_callK (fk_ring_of T) hr (by decide) (kd_cons (pd_var 0) kd_nil) (.mk z1 h p0))))))) (fun h7 => by cases h7) (fun h7 => sds_nil ?_))
    refine sds_cons (sd_if (b := false) (pq_cmp (cd_same hr (sh_two sh_dO sh_dO) (pd_callK (fk_stretch_of T) hr (by decide) (kd_cons pd_int (kd_cons (pd_var 2) (kd_cons (pd_var 0) kd_nil))) (.mk (o := 2) z1 h p0 h6 (by decide))) (pd_call (fn_stretch_of T) hr (by decide) (pds_cons (pd_var 0) (pds_cons (pd_var 2) (pds_cons pd_int pds_nil))) (.mk (o := 2) z1 h p0 h6 (by decide))))) (fun h8 => by cases h8) (fun h8 => sds_nil ?_))
    refine sds_cons (sd_if (b := false) (pq_cmp (cd_same hr (sh_two sh_dO sh_dO) (pd_callK (fk0_stretch_of T) hr (by decide) (kd_cons (pd_var 2) (kd_cons (pd_var 0) kd_nil)) (.mk (o := 0) z1 h p0 h6 (by decide))) (pd_call (fn_stretch_of T) hr (by decide) (pds_cons (pd_var 0) (pds_cons (pd_var 2) (pds_cons pd_int pds_nil))) (.mk (o := 0) z1 h p0 h6 (by decide))))) (fun h9 => by cases h9) (fun h9 => sds_nil ?_))
    refine sds_cons (sd_asg 3 sc_law_sheets.nd (pd_callK (fk_stretch_paper T) hr (by decide) (kd_cons (pd_var 2) (kd_cons (pd_var 0) kd_nil)) (.mk z h hn hc h6)) ?_)
    exact sds_cons (sd_ret (pd_and (pd_cmp (cd_sameE hr sh_paper (pd_var 3) (pd_call (fn_stretch_paper T) hr (by decide) (pds_cons (pd_var 0) (pds_cons (pd_var 2) pds_nil)) (.mk z h hn hc h6)))) fun h10 => (pd_one (pd_cmp (cd_isT (pd_callK (fk_paper_holds T) hr (by decide) (kd_cons (pd_var 3) (kd_cons (pd_var 2) (kd_cons (pd_var 0) kd_nil))) (.mk z h hn hc h6)) pd_bl)))) rfl)
inductive R_law_bids : List PyData → Res → Prop
  | mk {D M : Nat} {ts : List Tel} {o : Tel} {c : Nat} (a : Asked D M ts o c) (ho : Offs D M ts [o, o]) : R_law_bids [dTels ts, dTel o, .int c] (.dat (.bool true))
theorem sc_law_bids : FnScope ["_law_some_here", "_law_bid", "_law_which", "_law_best", "_law_told_here", "_law_due"] ["_law_some_here", "_law_bid", "_law_which"] (defScope s_law_bids_right) := ⟨rfl, rfl, rfl, by decide +kernel, rfl, by decide +kernel, by decide +kernel⟩
set_option maxHeartbeats 1000000 in
theorem fn_law_bids (T : Tx K mg) : Fn P w K mg base 10 "_law_bids_right" ["_law_some_here", "_law_bid", "_law_which"] [] (spD K R_law_bids) := by
  refine Fn.mk_ T m_law_bids_right rfl g_law_bids_right (fun _ _ _ _ _ _ us hl => match us, hl with | [_, _, _], _ => rfl) fun fd F => fn_body F sc_law_bids (by rintro _ _ ⟨⟩; rfl) fun cdv A outer s H E hr ds r hR => ?_
  cases hR with
  | @mk D0 M0 ts o c a ho =>
    obtain ⟨p, hp⟩ := a.p
    refine sds_cons (sd_if (b := false) (pq_cmp (cd_same hr sh_dO (pd_callK (fk_worst_of T) hr (by decide) (kd_cons (pd_tup (pds_cons (pd_var 2) pds_nil)) (kd_cons (pd_var 0) kd_nil)) (.mk a.z a.h hp a.c1 a.c6)) (pd_call (fn_worst_of T) hr (by decide) (pds_cons (pd_var 0) (pds_cons (pd_tup (pds_cons (pd_var 2) pds_nil)) pds_nil)) (.mk a.z a.h hp a.c1 a.c6)))) (fun h1 => by cases h1) (fun h1 => sds_nil ?_))
    refine sds_cons (sd_if (b := false) (wq_q (wq_or (p := false) (pq_cmp (cd_same hr sh_nI (pd_callK (fk_binding T) hr (by decide) (kd_cons (pd_var 2) (kd_cons (pd_var 0) kd_nil)) (.mk a.z a.h hp a.c1 a.c6)) (pd_call (fn_binding T) hr (by decide) (pds_cons (pd_var 0) (pds_cons (pd_var 2) pds_nil)) (.mk a.z a.h hp a.c1 a.c6)))) fun h2 => (wq_or1 (p := false) (pq_cmp (cd_same hr sh_nI (pd_callK (fk_needless T) hr (by decide) (kd_cons (pd_var 0) kd_nil) (.mk a.z a.h hp)) (pd_call (fn_needless T) hr (by decide) (pds_cons (pd_var 0) pds_nil) (.mk a.z a.h hp))))))) (fun h3 => by cases h3) (fun h3 => sds_nil ?_))
    refine sds_cons (sd_asg 3 sc_law_bids.nd (pd_callK (fk_best_offer T) hr (by decide) (kd_cons (pd_tup (pds_cons (pd_var 2) pds_nil)) (kd_cons (pd_tup (pds_cons (pd_var 1) (pds_cons (pd_var 1) pds_nil))) (kd_cons (pd_var 0) kd_nil))) (.mk (os := [o, o]) a.z a.h a.l hp ho a.c1 a.c6)) ?_)
    refine sds_cons (sd_if (b := false) (pq_cmp (cd_same hr sh_best (pd_var 3) (pd_call (fn_best_offer T) hr (by decide) (pds_cons (pd_var 0) (pds_cons (pd_tup (pds_cons (pd_var 1) (pds_cons (pd_var 1) pds_nil))) (pds_cons (pd_tup (pds_cons (pd_var 2) pds_nil)) pds_nil))) (.mk (os := [o, o]) a.z a.h a.l hp ho a.c1 a.c6)))) (fun h4 => by cases h4) (fun h4 => sds_nil ?_))
    refine sds_cons (sd_asg 4 sc_law_bids.nd (pd_callK (fk0_reason_for T) hr (by decide) (kd_cons (pd_tup (pds_cons (pd_var 2) pds_nil)) (kd_cons (pd_var 1) (kd_cons (pd_var 0) kd_nil))) (.mk a)) ?_)
    refine sds_cons (sd_if (b := false) (pq_cmp (cd_same hr sh_freeD (pd_var 4) (pd_call (fn_reason_for T) hr (by decide) (pds_cons (pd_var 0) (pds_cons (pd_var 1) (pds_cons (pd_tup (pds_cons (pd_var 2) pds_nil)) (pds_cons pd_non pds_nil)))) (.mk a)))) (fun h5 => by cases h5) (fun h5 => sds_nil ?_))
    refine sds_cons (sd_if (b := false) (pq_cmp (cd_same hr sh_freeD (pd_var 4) (pd_callK (fk_reason_for T) hr (by decide) (kd_cons pd_non (kd_cons (pd_tup (pds_cons (pd_var 2) pds_nil)) (kd_cons (pd_var 1) (kd_cons (pd_var 0) kd_nil)))) (.mk a)))) (fun h6 => by cases h6) (fun h6 => sds_nil ?_))
    refine sds_cons (sd_asg 5 sc_law_bids.nd (pd_call (fn_reason_holds T) hr (by decide) (pds_cons (pd_var 0) (pds_cons (pd_var 1) (pds_cons (pd_tup (pds_cons (pd_var 2) pds_nil)) (pds_cons (pd_tup (pds_cons pd_int (pds_cons pd_int pds_nil))) (pds_cons (pd_var 4) pds_nil))))) (.mk (q := 0) a)) ?_)
    exact sds_cons (sd_ret (pd_cmp (cd_sameE hr sh_bool (pd_callK (fk_reason_holds T) hr (by decide) (kd_cons (pd_var 4) (kd_cons (pd_tup (pds_cons pd_int (pds_cons pd_int pds_nil))) (kd_cons (pd_tup (pds_cons (pd_var 2) pds_nil)) (kd_cons (pd_var 1) (kd_cons (pd_var 0) kd_nil))))) (.mk (q := 0) a)) (pd_var 5))) rfl)
end
end Gk
end

section
set_option linter.all false
set_option maxRecDepth 100000
namespace Gk
open PySem PySem.Spec PyProof.Rows L2 Evl
/-! ## the pen: a list of three whole numbers that draws change -/
def PenC (a b c : Int) : Prop := 0 ≤ c ∧ c < 2147483648
abbrev dPen (a b c : Int) : List PyData := [.int a, .int b, .int c]
def nextI (s : Int) : Int := ((s + 7919) % 2147483647 * ((s + 7919) % 2147483647) + 48271 * ((s + 7919) % 2147483647) + 12345) % 2147483629
theorem next_bd (s : Int) : 0 ≤ nextI s ∧ nextI s < 2147483648 := by
  unfold nextI
  have h1 := Int.emod_nonneg ((s + 7919) % 2147483647 * ((s + 7919) % 2147483647) + 48271 * ((s + 7919) % 2147483647) + 12345) (b := 2147483629) (by decide)
  have h2 := Int.emod_lt_of_pos ((s + 7919) % 2147483647 * ((s + 7919) % 2147483647) + 48271 * ((s + 7919) % 2147483647) + 12345) (b := 2147483629) (by decide)
  omega
def spPen (K : PySem.W.Frag) (Pre : List PyData → Prop) (R : List PyData → PyData → Prop) : Sp := fun vs H Q _ => ∃ p us ds a b c, vs = .ref p :: us ∧ PenC a b c ∧ H p = some (.lst [.int a, .int b, .int c]) ∧ Fts K H ds us ∧ Pre ds ∧
  ∀ v H' d a' b' c', Stp [p] H H' → PenC a' b' c' → H' p = some (.lst [.int a', .int b', .int c']) → R ds d → Ft K H' d v → Q v H'
section
variable {X : Cx} {e ix : Expr} {G : List Slot} {D D1 D2 : Lists} {A : List Addr} {d : PyData} {ds : List PyData} {pos : Pos} {N : List Slot → Lists → Prop}
theorem sm_setL (i : Nat) {x : Str} {a : Addr} {p1 pn : Pos} {n : Int} {j : Nat} (h : PD X G (D1 ++ (a, ds) :: D2) e d) (hix : PD X G (D1 ++ (a, ds) :: D2) ix (.int n)) (hj : ixN ds.length n = some j) (hN : N G (D1 ++ (a, ds.set j d) :: D2)) (hg : G[i]? = some (.ref a) := by rfl) (ha : a ∈ A := by simp) (hi : X.N[i]? = some x := by rfl)
    (hv : Vis X.env.scope x := by first | exact Or.inl rfl | exact Or.inr (Or.inl rfl) | exact Or.inr (Or.inr rfl)) (hd : (x == ("__debug__" : Str)) = false := by decide) (hcd : (x == ("__classdict__" : Str)) = false := by decide)
    (hpa : ∀ v, assign (.Subscript (.Name x pn) ix p1) X.env v = (do
      let ov ← holding [v] (eval (.Name x pn) X.env)
      let iv ← holding [v, ov] (eval ix X.env)
      standAt p1
      holding [v, ov, iv] (setItem ov iv v)
      release [v, ov, iv] []) := by intro _; rfl)
    (hs : swapsWithSole [.Subscript (.Name x pn) ix p1] e pos.line X.env = pure false := by rfl) (hw : swappedStores [.Subscript (.Name x pn) ix p1] e X.env = pure none := by rfl)
    (h1 : (assignEach [.Subscript (.Name x pn) ix p1] X.env).map (·.2) = [assign (.Subscript (.Name x pn) ix p1) X.env] := by rfl) : SM X A G (D1 ++ (a, ds) :: D2) (.Assign [.Subscript (.Name x pn) ix p1] e pos) N :=
  PS.by_ (ps_asg h (pg_sub (pe_var hi hv hd hcd) hix set_list hpa) hs hw h1) fun En t H ⟨E, q⟩ => ⟨E, fun v H1 e1 f => by
    have E1 := E.mono e1
    refine ⟨_, E1.rf hg, E1, fun u H2 e2 f2 => ?_⟩
    have E2 := E1.mono e2
    obtain ⟨us, h3, h4⟩ := E2.lists (a, ds) (List.mem_append_right _ (List.mem_cons_self ..))
    refine ⟨a, us, n, j, rfl, f2, h3, by rw [h4.len]; exact hj, ?_⟩
    exact q G _ t _ ((Stp.ex (e1.trans e2)).trans (Stp.upd ha)) (E2.upd (h4.set j (f.mono (Ex.tp e2)))) hN⟩
/-- bodies that end by return -/
def tRt (K : PySem.W.Frag) (A : List Addr) (H0 : Hp) (G : List Slot) (D : Lists) (Gd : V → Hp → Prop) : TS := fun En t H => Stp A H0 H ∧ EnvE K G D t H ∧ ∀ v H', Gd v H' → En.rt v H'
abbrev SMr (X : Cx) (A : List Addr) (G : List Slot) (D : Lists) (sts : List Stmt) (Gd : Hp → V → Hp → Prop) : Prop := ∀ H0, PSs X sts (tRt X.K A H0 G D (Gd H0))
variable {st : Stmt} {rest s1 : List Stmt} {Gd : Hp → V → Hp → Prop} {c : Expr} {b : Bool}
theorem smr_s (h : SMr X A G D rest Gd) : SMs X A G D rest Gd := fun H0 => PSs.by_ (h H0) fun En t H ⟨x0, E, r, _⟩ => ⟨x0, E, r⟩
theorem smr_cons (h : SM X A G D st (fun G' D' => SMr X A G' D' rest Gd)) : SMr X A G D (st :: rest) Gd := fun H0 => by
  have hu : PSs X rest (fun En t H => ∃ G' D', SMr X A G' D' rest Gd ∧ tRt X.K A H0 G' D' (Gd H0) En t H) := ⟨fun p s c H En I ⟨G', D', z, q⟩ => (z H0).run p s c H En I q⟩
  exact PSs.by_ (pss_cons h hu) fun En t H ⟨x0, E, r⟩ => ⟨E, fun G' D' t' H' e1 E' z => ⟨G', D', z, x0.trans e1, E', r⟩⟩
theorem smr_ret (hd : PD X G D e d) (h : ∀ H0 t H v, Stp A H0 H → EnvE X.K G D t H → Ft X.K H d v → Gd H0 v H) : SMr X A G D [.Return (some e) pos] Gd := fun H0 => PSs.by_ (pss_one (ps_ret hd)) fun En t H ⟨x0, E, r⟩ => ⟨E, fun v H1 e1 f => r v H1 (h H0 t H1 v (x0.trans (Stp.ex e1)) (E.mono e1) f)⟩
theorem smr_if (hc : PQ X G D c b) (h1 : b = true → SMr X A G D s1 Gd) (h2 : b = false → SMr X A G D rest Gd) : SMr X A G D (.If c s1 [] pos :: rest) Gd := fun H0 => by
  cases b with
  | true => exact PSs.by_ (pss_cons (ps_if hc (h1 rfl H0) pss_never) pss_never) fun En t H ⟨x0, E, r⟩ => ⟨E, fun H1 e1 => iteT ⟨x0.trans (Stp.ex e1), E.mono e1, r⟩⟩
  | false => exact PSs.by_ (pss_cons (ps_if hc pss_never pss_nil) (h2 rfl H0)) fun En t H ⟨x0, E, r⟩ => ⟨E, fun H1 e1 => iteF ⟨x0.trans (Stp.ex e1), E.mono e1, r⟩⟩
end
section
variable {P : Program} {w : World} {K : PySem.W.Frag} {mg : Str → Option Value} {base : Heap}
theorem fn_bodyP {x qual : Str} {params : Arguments} {body : List Stmt} {scope : Scope} {dvs : List V} {kws : List (Str × V)} {f : Addr} {fd : FuncData} {N ps : List Str} {k : Nat} {Pre : List PyData → Prop} {R : List PyData → PyData → Prop} (F : FunD K x qual params body scope dvs kws f fd) (S : FnScope N ps scope) (hlen : ∀ ds, Pre ds → ds.length + 1 = ps.length)
    (hbody : ∀ (cdv : Value) (A : Around) (outer : List Env) (s : Shared) (H : Hp) (E : XK), Room k (A.deeper (envOfC qual scope s.heap.objs.size f cdv)) → ∀ p ds a b c, Pre ds → PenC a b c →
      SMs (cxOf CX0 P w K mg base N qual scope f cdv A outer s H E).nox [p] (.ref p :: (ds.map .dat ++ List.replicate (N.length - ps.length) .no)) [(p, dPen a b c)] body (fun H0 v H' => Stp [p] H0 H' ∧ (∃ a' b' c', PenC a' b' c' ∧ H' p = some (.lst [.int a', .int b', .int c'])) ∧ ∃ d, R ds d ∧ Ft K H' d v)) : FnOk P w K mg base CX0 (k + 1) f fd ps (spPen K Pre R) := by
  refine FunD.ok F S (fun vs H Q E h => ?_) (fun cdv A outer s H vs Q E hr h => ?_)
  · obtain ⟨p, us, ds, a, b, c, rfl, _, _, hf, hp, _⟩ := h
    rw [List.length_cons, hf.len]
    exact hlen ds hp
  · obtain ⟨p, us, ds, a, b, c, rfl, hc, hl, hf, hp, q⟩ := h
    have hb := hbody cdv A outer s H E hr p ds a b c hp hc H
    refine ⟨_, hb.nox, Stp.refl _ H, ⟨?_, by simp, fun z hz => ?_⟩, fun v H' ⟨st, ⟨a', b', c', hc', hl'⟩, d, hd, fv⟩ => q v H' d a' b' c' st hc' hl' hd fv, fun t' H' ⟨st, ⟨a', b', c', hc', hl'⟩, d, hd, fv⟩ => q .non H' d a' b' c' st hc' hl' hd fv⟩
    · have hl : (V.ref p :: us).length = ps.length := by rw [List.length_cons, hf.len]; exact hlen ds hp
      show SlotsOk K H _ (L2.start N (V.ref p :: us))
      unfold L2.start
      rw [hl]
      exact ⟨_, _, rfl, rfl, slots_start _ hf⟩
    · rw [List.mem_singleton.mp hz]
      exact ⟨_, hl, Fts.of_ints [a, b, c]⟩
inductive R_law_next : List PyData → Res → Prop
  | mk {s : Int} : R_law_next [.int s] (.dat (.int (nextI s)))
theorem sc_law_next : FnScope ["_law_seed"] ["_law_seed"] (defScope s_law_next) := ⟨rfl, rfl, rfl, by decide +kernel, rfl, by decide +kernel, by decide +kernel⟩
theorem mod_sz (s : Int) : ((s + 7919) % 2147483647).natAbs < 2 ^ 40 := by
  have h1 := Int.emod_nonneg (s + 7919) (b := 2147483647) (by decide)
  have h2 := Int.emod_lt_of_pos (s + 7919) (b := 2147483647) (by decide)
  omega
theorem fn_law_next (T : Tx K mg) : Fn P w K mg base 1 "_law_next" ["_law_seed"] [] (spD K R_law_next) := by
  refine Fn.mk_ T m_law_next rfl g_law_next (fun _ _ _ _ _ _ us hl => match us, hl with | [_], _ => rfl) fun fd F => fn_body F sc_law_next (by rintro _ _ ⟨⟩; rfl) fun cdv A outer s H E hr ds r hR => ?_
  cases hR with
  | @mk s =>
    refine sds_cons (sd_asg 0 sc_law_next.nd (pd_mod (pd_add (pd_var 0) pd_int) pd_int (by decide)) ?_)
    exact sds_cons (sd_ret (pd_mod (pd_add (pd_add (pd_mul (pd_var 0) (pd_var 0) (sm_mul (mod_sz s) (mod_sz s))) (pd_mul pd_int (pd_var 0) (sm_mul (m := 40) (by decide) (mod_sz s)))) pd_int) pd_int (by decide)) rfl)
/-! ### _law_draw -/
inductive Pre_draw : List PyData → Prop
  | mk {n : Int} (h : 0 < n) (h2 : n < 1000) : Pre_draw [.int n]
inductive R_draw : List PyData → PyData → Prop
  | mk {n r : Int} (h0 : 0 ≤ r) (h : r < n) : R_draw [.int n] (.int r)
theorem sc_law_draw : FnScope ["_law_pen", "_law_count", "_law_found"] ["_law_pen", "_law_count"] (defScope s_law_draw) := ⟨rfl, rfl, rfl, by decide +kernel, rfl, by decide +kernel, by decide +kernel⟩
theorem pen_at {K : PySem.W.Frag} {G : List Slot} {t : L2.St} {H : Hp} {p : Addr} {a b c : Int} (E : EnvE K G [(p, dPen a b c)] t H) (h : PenC a b c) : ∃ a' b' c', PenC a' b' c' ∧ H p = some (.lst [.int a', .int b', .int c']) := by
  obtain ⟨vs, h1, h2⟩ := E.lists _ (List.mem_cons_self ..)
  have e : vs = [V.int a, .int b, .int c] := Fts.ints (ns := [a, b, c]) h2
  exact ⟨a, b, c, h, by rw [h1, e]⟩
theorem fn_law_draw (T : Tx K mg) : Fn P w K mg base 2 "_law_draw" ["_law_pen", "_law_count"] [] (spPen K Pre_draw R_draw) := by
  refine Fn.mk_ T m_law_draw rfl g_law_draw (fun _ _ _ _ _ _ us hl => match us, hl with | [_, _], _ => rfl) fun fd F => fn_bodyP F sc_law_draw (by rintro _ ⟨⟩; rfl) fun cdv A outer s H E hr p ds a b c hp hc => ?_
  cases hp with
  | @mk n hn hn2 =>
    have hdiv : ∀ i : Int, CDivW i 64 := fun i => wide_div (b := 9000) (by decide) (by decide) (by decide) (by decide)
    refine smr_s (smr_if (wq_q (wq_and (pq_cmp (cd_eq' hr (pd_ixR (pr_var 0 (hp := List.mem_cons_self ..)) pd_int rfl) pd_int)) fun h1 => (wq_and1 (pq_cmp (cd_gt (pd_ixR (pr_var 0 (hp := List.mem_cons_self ..)) pd_int rfl) pd_int))))) (fun h2 => ?_) (fun h2 => ?_))
    · refine smr_cons (sm_of (sd_asg 2 sc_law_draw.nd (pd_mod (pd_ixR (pr_var 0 (hp := List.mem_cons_self ..)) pd_int rfl) (pd_var 1) hn) ?_))
      refine smr_cons (sm_setL (D1 := []) 0 (j := 0) (pd_fdiv (pd_ixR (pr_var 0 (hp := List.mem_cons_self ..)) pd_int rfl) (pd_var 1) ?_) pd_int rfl ?_)
      · exact wide_div (b := 9000) hn (Nat.lt_of_lt_of_le (show n.natAbs < 2 ^ 10 by omega) (Nat.pow_le_pow_right (by decide) (by decide))) (by decide) (by decide)
      refine smr_ret (pd_var 2) fun H0 t H v x0 E f => ⟨x0, pen_at (a := a / n) E hc, _, .mk (Int.emod_nonneg _ (by omega)) (Int.emod_lt_of_pos _ hn), f⟩
    · refine smr_cons (sm_setL (D1 := []) 0 (j := 2) (pd_call (fn_law_next T) hr (by decide) (pds_cons (pd_add (pd_call (fn_law_next T) hr (by decide) (pds_cons (pd_ixR (pr_var 0 (hp := List.mem_cons_self ..)) pd_int rfl) pds_nil) .mk) pd_int) pds_nil) .mk) pd_int rfl ?_)
      refine smr_ret (pd_mod (pd_fdiv (pd_ixR (pr_var 0 (hp := List.mem_cons_self ..)) pd_int rfl) pd_int (hdiv _)) (pd_var 1) hn) fun H0 t H v x0 E f => ⟨x0, pen_at E (next_bd _), _, .mk (Int.emod_nonneg _ (by omega)) (Int.emod_lt_of_pos _ hn), f⟩
end
end Gk
end

section
set_option linter.all false
set_option maxRecDepth 100000
namespace Gk
open PySem PySem.Spec PyProof.Rows L2 Evl
/-! ## expressions that draw -/
def PenE (K : PySem.W.Frag) (p : Addr) (G : List Slot) (D : Lists) (t : L2.St) (H : Hp) : Prop := ∃ a b c, PenC a b c ∧ EnvE K G ((p, dPen a b c) :: D) t H
abbrev WOne := PyData → Prop
abbrev WSet := List PyData → Prop
def tPn (K : PySem.W.Frag) (p : Addr) (G : List Slot) (D : Lists) (W : WOne) : TE := fun t H Q => PenE K p G D t H ∧ ∀ v H' d, Stp [p] H H' → PenE K p G D t H' → W d → Ft K H' d v → Q v H'
def tPns (K : PySem.W.Frag) (p : Addr) (G : List Slot) (D : Lists) (W : WSet) : TA := fun t H Q => PenE K p G D t H ∧ ∀ vs H' ds, Stp [p] H H' → PenE K p G D t H' → W ds → Fts K H' ds vs → Q vs H'
abbrev PP (X : Cx) (p : Addr) (G : List Slot) (D : Lists) (e : Expr) (W : WOne) : Prop := PE X e (tPn X.K p G D W)
abbrev PPs (X : Cx) (p : Addr) (G : List Slot) (D : Lists) (es : List Expr) (W : WSet) : Prop := PA X es (tPns X.K p G D W)
theorem PenE.lst {K : PySem.W.Frag} {p : Addr} {G : List Slot} {D : Lists} {t : L2.St} {H : Hp} (E : PenE K p G D t H) : ∃ a b c, PenC a b c ∧ H p = some (.lst [.int a, .int b, .int c]) := by
  obtain ⟨a, b, c, h, E⟩ := E
  obtain ⟨vs, h1, h2⟩ := E.lists _ (List.mem_cons_self ..)
  have e : vs = [V.int a, .int b, .int c] := Fts.ints (ns := [a, b, c]) h2
  exact ⟨a, b, c, h, by rw [h1, e]⟩
theorem PenE.mono {K : PySem.W.Frag} {p : Addr} {G : List Slot} {D : Lists} {t : L2.St} {H H' : Hp} (e : Ex H H') (E : PenE K p G D t H) : PenE K p G D t H' := by
  obtain ⟨a, b, c, h, E⟩ := E
  exact ⟨a, b, c, h, E.mono e⟩
theorem PenE.sq {K : PySem.W.Frag} {p : Addr} {G : List Slot} {D : Lists} {t : L2.St} {H H' : Hp} (E : PenE K p G D t H) (h : Stp [p] H H') : SqK K H H' := sq_stp h fun y hy => by
  obtain ⟨a, b, c, _, hl⟩ := E.lst
  rw [List.mem_singleton.mp hy]
  exact .inr ⟨_, hl⟩
theorem PenE.after {K : PySem.W.Frag} {p : Addr} {G : List Slot} {D : Lists} {t : L2.St} {H H' : Hp} {a b c : Int} (E : PenE K p G D t H) (st : Stp [p] H H') (hc : PenC a b c) (hl : H' p = some (.lst [.int a, .int b, .int c])) : PenE K p G D t H' := by
  have sq := E.sq st
  obtain ⟨a0, b0, c0, h0, E⟩ := E
  obtain ⟨vs, h1, _⟩ := E.lists _ (List.mem_cons_self ..)
  have nd := E.nd
  refine ⟨a, b, c, hc, ?_, nd, fun z hz => ?_⟩
  · have key : ∀ (G : List Slot) (t : L2.St), SlotsOk K H G t → SlotsOk K H' G t := by
      intro G
      induction G with
      | nil => intro t _; exact True.intro
      | cons s G ih =>
        intro t h
        obtain ⟨x, r, e, q, w⟩ := h
        cases s with
        | no => exact ⟨x, r, e, True.intro, ih r w⟩
        | dat d =>
          obtain ⟨v, q1, q2⟩ := q
          exact ⟨x, r, e, ⟨v, q1, q2.monoT sq⟩, ih r w⟩
        | ref b => exact ⟨x, r, e, q, ih r w⟩
        | ins y C z =>
          obtain ⟨q, dx, v1, v2, k1, k2, k3⟩ := q
          refine ⟨x, r, e, ⟨q, dx, v1, v2, st y _ k1 (fun m => ?_), k2.monoT sq, k3.monoT sq⟩, ih r w⟩
          rw [List.mem_singleton.mp m, h1] at k1
          cases k1
    exact key G t E.slots
  · rcases List.mem_cons.mp hz with rfl | hz
    · exact ⟨_, hl, Fts.of_ints [a, b, c]⟩
    · obtain ⟨us, q1, q2⟩ := E.lists z (List.mem_cons_of_mem _ hz)
      refine ⟨us, st _ _ q1 fun m => ?_, q2.monoT sq⟩
      have hne := (List.nodup_cons.mp nd).1
      exact hne (List.mem_map.mpr ⟨z, hz, List.mem_singleton.mp m⟩)
section
variable {X : Cx} {p : Addr} {G : List Slot} {D : Lists} {e e2 a b : Expr} {es : List Expr} {W W' Wa Wb : WOne} {Ws : WSet} {d : PyData} {pos pn : Pos} {k n : Nat} {x y : Str}
theorem pp_pd (h : ∀ a b c, PD X G ((p, dPen a b c) :: D) e d) : PP X p G D e (fun z => z = d) := by
  have hu : PE X e (fun t H Q => ∃ a b c, tD X.K G ((p, dPen a b c) :: D) d t H Q) := ⟨fun q s c' H Q I ⟨a, b, c, z⟩ => (h a b c).run q s c' H Q I z⟩
  exact PE.by_ hu fun t H Q ⟨⟨a, b, c, hc, E⟩, q⟩ => ⟨a, b, c, E, fun v H' e1 f => q v H' d (Stp.ex e1) ⟨a, b, c, hc, E.mono e1⟩ rfl f⟩
theorem pp_imp (h : PP X p G D e W) (i : ∀ d, W d → W' d) : PP X p G D e W' := PE.by_ h fun t H Q ⟨E, q⟩ => ⟨E, fun v H' d st E' w f => q v H' d st E' (i d w) f⟩
theorem pps_nil : PPs X p G D [] (fun ds => ds = []) := PA.by_ pa_nil fun t H Q ⟨E, q⟩ => q [] H [] (Stp.refl _ _) E rfl rfl
theorem pps_cons (h : PP X p G D e W) (hr : PPs X p G D es Ws) (hs : starEach (e :: es) X.env = (false, eval e X.env) :: starEach es X.env := by rfl) : PPs X p G D (e :: es) (fun ds => ∃ d r, ds = d :: r ∧ W d ∧ Ws r) :=
  PA.by_ (pa_cons h hr hs) fun t H Q ⟨E, q⟩ => ⟨E, fun v H1 d s1 E1 w f1 => ⟨E1, fun vs H2 ds s2 E2 w2 f2 => q (v :: vs) H2 (d :: ds) (s1.trans s2) E2 ⟨d, ds, rfl, w, w2⟩ ⟨v, vs, rfl, f1.monoT (E1.sq s2), f2⟩⟩⟩
theorem pp_tup {kt : Nat} (h : PPs X p G D es Ws) (hl : ∀ ds, Ws ds → ds.length ≤ 1000) : PP X p G D (.Tuple es kt pos) (fun d => ∃ ds, d = .tuple ds ∧ Ws ds) :=
  PE.by_ (pe_tup h) fun t H Q ⟨E, q⟩ => ⟨E, fun vs H1 ds s1 E1 w f => ⟨sz_of (by have := hl ds w; rw [f.len]; omega), fun z hz => q _ _ (.tuple ds) (s1.trans (Stp.ex (Ex.new hz))) (E1.mono (Ex.new hz)) ⟨ds, rfl, w⟩ (ft_tup hz f)⟩⟩
theorem pp_bin {op : Operator} {C : Int → Int → Prop} {g : Int → Int → Int} (ho : OpR X (binaryOp op) (rI C fun i j => .int (g i j))) (ha : PP X p G D a Wa) (hb : PP X p G D b Wb) (hc : ∀ da db, Wa da → Wb db → ∃ i j, da = .int i ∧ db = .int j ∧ C i j ∧ W (.int (g i j))) : PP X p G D (.BinOp a op b pos) W :=
  PE.by_ (pe_op ho ha hb) fun t H Q ⟨E, q⟩ => ⟨E, fun v H1 da s1 E1 w1 f1 => ⟨E1, fun u H2 db s2 E2 w2 f2 => by
    obtain ⟨i, j, rfl, rfl, c, w⟩ := hc da db w1 w2
    exact ⟨i, j, f1, f2, c, q _ H2 _ (s1.trans s2) E2 w rfl⟩⟩⟩
theorem pp_bin0 {op : Operator} {g : Int → Int → Int} (ho : OpR X (binaryOp op) (rI0 fun i j => .int (g i j))) (ha : PP X p G D a Wa) (hb : PP X p G D b Wb) (hc : ∀ da db, Wa da → Wb db → ∃ i j, da = .int i ∧ db = .int j ∧ W (.int (g i j))) : PP X p G D (.BinOp a op b pos) W :=
  PE.by_ (pe_op ho ha hb) fun t H Q ⟨E, q⟩ => ⟨E, fun v H1 da s1 E1 w1 f1 => ⟨E1, fun u H2 db s2 E2 w2 f2 => by
    obtain ⟨i, j, rfl, rfl, w⟩ := hc da db w1 w2
    exact ⟨i, j, f1, f2, q _ H2 _ (s1.trans s2) E2 w rfl⟩⟩⟩
/-- a def of the module over what was drawn -/
theorem pp_call {ps : List Str} {R : List PyData → Res → Prop} (F : Fn X.prog X.w X.K X.mg X.base k x ps [] (spD X.K R)) (hr : Room n X.A) (hk : k ≤ n) (ha : PPs X p G D (e :: es) Ws) (h : ∀ ds, Ws ds → ∃ d, R ds (.dat d) ∧ W d) (hg : Gl X x := by rfl) (hdb : (x == ("__debug__" : Str)) = false := by decide)
    (he : starEach (e :: es) X.env = (false, eval e X.env) :: starEach es X.env := by rfl) (hpl : (backTo pos (starEach es X.env)).any (·.1) = false := by rfl) : PP X p G D (.Call (.Name x pn) (e :: es) [] pos) W :=
  PE.by_ (pe_fn F hr hk ha hg hdb he hpl) fun t H Q ⟨E, q⟩ => ⟨E, fun vs H1 ds s1 E1 w f => by
    obtain ⟨d, hR, wd⟩ := h ds w
    show spD X.K R (vs ++ []) H1 Q E0
    rw [List.append_nil]
    exact ⟨ds, _, f, hR, fun v H2 e2 r => q v H2 d (s1.trans (Stp.ex e2)) (E1.mono e2) wd r⟩⟩
/-- a def that is handed the pen, and a number or nothing -/
theorem pp_pen {ps : List Str} {Pre : List PyData → Prop} {R : List PyData → PyData → Prop} {y' : Pos} {ds : List PyData} (i : Nat) (F : Fn X.prog X.w X.K X.mg X.base k x ps [] (spPen X.K Pre R)) (hr : Room n X.A) (hk : k ≤ n) (ha : ∀ a b c, PDs X G ((p, dPen a b c) :: D) es ds) (hp : Pre ds) (h : ∀ d, R ds d → W d) (hG : G[i]? = some (.ref p) := by rfl)
    (hN : X.N[i]? = some y := by rfl) (hv : Vis X.env.scope y := by first | exact Or.inl rfl | exact Or.inr (Or.inl rfl) | exact Or.inr (Or.inr rfl)) (hd : (y == ("__debug__" : Str)) = false := by decide) (hcd : (y == ("__classdict__" : Str)) = false := by decide) (hg : Gl X x := by rfl) (hdb : (x == ("__debug__" : Str)) = false := by decide)
    (he : starEach (.Name y y' :: es) X.env = (false, eval (.Name y y') X.env) :: starEach es X.env := by rfl) (hpl : (backTo pos (starEach es X.env)).any (·.1) = false := by rfl) : PP X p G D (.Call (.Name x pn) (.Name y y' :: es) [] pos) W := by
  have hu : PA X es (fun t H Q => ∃ a b c, tDs X.K G ((p, dPen a b c) :: D) ds t H Q) := ⟨fun z q s c' H Q I ⟨a, b, c, w⟩ => (ha a b c).run z q s c' H Q I w⟩
  exact PE.by_ (pe_fn F hr hk (pa_cons (pe_var hN hv hd hcd) hu he) hg hdb he hpl) fun t H Q ⟨E, q⟩ => by
    have E0 := E
    obtain ⟨a, b, c, hc, E⟩ := E
    refine ⟨_, E.rf hG, a, b, c, E, fun vs H1 e1 f => ?_⟩
    obtain ⟨a2, b2, c2, hc2, hl⟩ := (E0.mono e1).lst
    show spPen X.K Pre R (V.ref p :: vs ++ []) H1 Q _
    rw [List.append_nil]
    exact ⟨p, vs, ds, a2, b2, c2, rfl, hc2, hl, f, hp, fun v H2 d a3 b3 c3 s2 hc3 hl3 hR fv => q v H2 d ((Stp.ex e1).trans s2) ((E0.mono e1).after s2 hc3 hl3) (h d hR) fv⟩
end
end Gk
end

section
set_option linter.all false
set_option maxRecDepth 100000
namespace Gk
open PySem PySem.Spec PyProof.Rows L2 Evl
section
variable {X : Cx} {p : Addr} {G : List Slot} {D : Lists} {e a b : Expr} {W Wa Wb Rd : WOne} {d : PyData} {pos p' pn : Pos} {x y : Str} {rest : List Stmt} {i j : Int}
theorem pd_pow (ha : PD X G D a (.int i)) (hb : PD X G D b (.int j)) (h : CPow i j) : PD X G D (.BinOp a .Pow b pos) (.int (i ^ j.toNat)) := pd_opI op_pow ha hb h
theorem pd_max (hc : X.calm = true) (ha : PD X G D a (.int i)) (hb : PD X G D b (.int j)) (hm : X.mg "max" = none) (hg : Gl X "max" := by rfl) (hs : starEach [a, b] X.env = (false, eval a X.env) :: starEach [b] X.env := by rfl) (hs2 : starEach [b] X.env = (false, eval b X.env) :: starEach [] X.env := by rfl) (hpl : (backTo pos (starEach [b] X.env)).any (·.1) = false := by rfl) : PD X G D (.Call (.Name "max" pn) [a, b] [] pos) (.int (if j > i then j else i)) :=
  PE.by_ (pe_callB (call_max2 hc) hg hm (by decide +kernel) (pa_cons ha (pa_cons hb pa_nil hs2) hs) (by decide) (by decide) hs hpl) fun t H Q ⟨E, q⟩ => ⟨E, fun v H1 e1 f1 => ⟨E.mono e1, fun u H2 e2 f2 => by
    have ev : v = .int i := f1
    have eu : u = .int j := f2
    subst ev eu
    exact ⟨i, j, rfl, q _ H2 (e1.trans e2) rfl⟩⟩⟩
theorem pd_intB {k : Bool} (ha : PD X G D a (.bool k)) (hm : X.mg "int" = none) (hg : Gl X "int" := by rfl) (hs : starEach [a] X.env = (false, eval a X.env) :: starEach [] X.env := by rfl) : PD X G D (.Call (.Name "int" pn) [a] [] pos) (.int (if k then 1 else 0)) :=
  PE.by_ (pe_callTy call_int1 hg hm (by decide +kernel) (pa_cons ha pa_nil hs) (by decide) (by decide) hs (by rfl)) fun t H Q ⟨E, q⟩ => ⟨E, fun v H1 e1 f1 => by
    have ev : v = .bl k := f1
    subst ev
    exact .inr ⟨k, rfl, q _ H1 e1 rfl⟩⟩
theorem PenE.put {K : PySem.W.Frag} {t : L2.St} {H : Hp} {i : Nat} {v : V} (E : PenE K p G D t H) (f : Ft K H d v) : PenE K p (G.set i (.dat d)) D (t.set i (some v)) H := by
  obtain ⟨a, b, c, h, E⟩ := E
  exact ⟨a, b, c, h, E.put f⟩
def tRp (K : PySem.W.Frag) (p : Addr) (H0 : Hp) (G : List Slot) (D : Lists) (Rd : WOne) : TS := fun En t H => Stp [p] H0 H ∧ PenE K p G D t H ∧ ∀ v H' d a b c, Stp [p] H0 H' → PenC a b c → H' p = some (.lst [.int a, .int b, .int c]) → Rd d → Ft K H' d v → En.rt v H'
abbrev SPr (X : Cx) (p : Addr) (G : List Slot) (D : Lists) (sts : List Stmt) (Rd : WOne) : Prop := ∀ H0, PSs X sts (tRp X.K p H0 G D Rd)
theorem spr_ret (h : PP X p G D e W) (hR : ∀ d, W d → Rd d) : SPr X p G D [.Return (some e) pos] Rd := fun H0 => PSs.by_ (pss_one (ps_ret h)) fun En t H ⟨x0, E, r⟩ => ⟨E, fun v H1 d s1 E1 w f => by
  obtain ⟨a, b, c, hc, hl⟩ := E1.lst
  exact r v H1 d a b c (x0.trans s1) hc hl (hR d w) f⟩
theorem spr_asg (i : Nat) (hnd : X.N.Nodup) (h : PP X p G D e W) (hr : ∀ d, W d → SPr X p (G.set i (.dat d)) D rest Rd) (hi : X.N[i]? = some x := by rfl) (hx : Loc X.env.scope x := by first | exact Or.inl rfl | exact Or.inr rfl)
    (hs : swapsWith e (some (.Name x p')) pos.line X.env = pure false := by rfl) (hf : X.fn x = true ∨ X.env.scope.names.lookup x = some .local := by first | exact .inl rfl | exact .inr rfl) : SPr X p G D (.Assign [.Name x p'] e pos :: rest) Rd := fun H0 => by
  have hu : PSs X rest (fun En t H => ∃ d, W d ∧ tRp X.K p H0 (G.set i (.dat d)) D Rd En t H) := ⟨fun q s c H En I ⟨d, w, z⟩ => (hr d w H0).run q s c H En I z⟩
  exact PSs.by_ (pss_cons (ps_set hnd hi hx h hs hf) hu) fun En t H ⟨x0, E, r⟩ => ⟨E, fun v H1 d s1 E1 w f => ⟨d, w, x0.trans s1, E1.put f, r⟩⟩
theorem spr_par (i j : Nat) {px py pt : Pos} {kt k2 pt2} (hnd : X.N.Nodup) (ha : PP X p G D a Wa) (hb : PP X p G D b Wb) (hr : ∀ d1 d2, Wa d1 → Wb d2 → SPr X p ((G.set i (.dat d1)).set j (.dat d2)) D rest Rd) (hc : X.calm = true := by rfl) (hi : X.N[i]? = some x := by rfl) (hj : X.N[j]? = some y := by rfl) (hij : i ≠ j := by decide)
    (hx : X.env.scope.names.lookup x = some .local := by rfl) (hy : X.env.scope.names.lookup y = some .local := by rfl)
    (hw : swappedStores [.Tuple [.Name x px, .Name y py] kt pt] (.Tuple [a, b] k2 pt2) X.env = pure (some [x, y]) := by rfl)
    (hs : swapsWithSole [.Tuple [.Name x px, .Name y py] kt pt] (.Tuple [a, b] k2 pt2) pos.line X.env = pure false := by rfl)
    (hs1 : starEach [a, b] X.env = (false, eval a X.env) :: starEach [b] X.env := by rfl) (hs2 : starEach [b] X.env = (false, eval b X.env) :: starEach [] X.env := by rfl) : SPr X p G D (.Assign [.Tuple [.Name x px, .Name y py] kt pt] (.Tuple [a, b] k2 pt2) pos :: rest) Rd := fun H0 => by
  have hu : PSs X rest (fun En t H => ∃ d1 d2, Wa d1 ∧ Wb d2 ∧ tRp X.K p H0 ((G.set i (.dat d1)).set j (.dat d2)) D Rd En t H) := ⟨fun q s c H En I ⟨d1, d2, w1, w2, z⟩ => (hr d1 d2 w1 w2 H0).run q s c H En I z⟩
  exact PSs.by_ (pss_cons (ps_par hc hnd hi hj hij hx hy (pa_cons ha (pa_cons hb pa_nil hs2) hs1) hw hs) hu) fun En t H ⟨x0, E, r⟩ => ⟨E, fun v H1 d1 s1 E1 w1 f1 => ⟨E1, fun u H2 d2 s2 E2 w2 f2 => ⟨v, u, rfl, d1, d2, w1, w2, x0.trans (s1.trans s2), (E2.put (f1.monoT (E1.sq s2))).put f2, r⟩⟩⟩
end
section
variable {P : Program} {w : World} {K : PySem.W.Frag} {mg : Str → Option Value} {base : Heap}
theorem fn_bodyPr {x qual : Str} {params : Arguments} {body : List Stmt} {scope : Scope} {dvs : List V} {kws : List (Str × V)} {f : Addr} {fd : FuncData} {N : List Str} {k : Nat} {y : Str} {R : List PyData → PyData → Prop} (F : FunD K x qual params body scope dvs kws f fd) (S : FnScope N [y] scope)
    (hbody : ∀ (cdv : Value) (A : Around) (outer : List Env) (s : Shared) (H : Hp) (E : XK), Room k (A.deeper (envOfC qual scope s.heap.objs.size f cdv)) → ∀ p,
      SPr (cxOf CX0 P w K mg base N qual scope f cdv A outer s H E).nox p (.ref p :: List.replicate (N.length - 1) .no) [] body (R [])) : FnOk P w K mg base CX0 (k + 1) f fd [y] (spPen K (fun ds => ds = []) R) := by
  refine FunD.ok F S (fun vs H Q E h => ?_) (fun cdv A outer s H vs Q E hr h => ?_)
  · obtain ⟨p, us, ds, a, b, c, rfl, _, _, hf, hp, _⟩ := h
    rw [List.length_cons, hf.len, hp] <;> rfl
  · obtain ⟨p, us, ds, a, b, c, rfl, hc, hl, hf, hp, q⟩ := h
    subst hp
    have eu : us = [] := hf
    subst eu
    have hb := hbody cdv A outer s H E hr p H
    refine ⟨_, hb.nox, Stp.refl _ H, ⟨a, b, c, hc, ?_, by simp, fun z hz => ?_⟩, fun v H' d a' b' c' st hc' hl' hd fv => q v H' d a' b' c' st hc' hl' hd fv⟩
    · exact ⟨_, _, rfl, rfl, slots_start (ds := []) (N.length - 1) rfl⟩
    · rw [List.mem_singleton.mp hz]
      exact ⟨_, hl, Fts.of_ints [a, b, c]⟩
/-- one of the law's parts -/
def Lit (q : Rat) : Prop := ∃ r s : Int, -40 ≤ r ∧ r ≤ 40 ∧ 1 ≤ s ∧ s ≤ 9 ∧ q = Rat.divInt r s
def W_some : WOne := fun d => ∃ q, d = dP q ∧ Lit q
theorem sc_law_some : FnScope ["_law_pen"] ["_law_pen"] (defScope s_law_some) := ⟨rfl, rfl, rfl, by decide +kernel, rfl, by decide +kernel, by decide +kernel⟩
def WI (lo hi : Int) : WOne := fun d => ∃ r : Int, d = .int r ∧ lo ≤ r ∧ r ≤ hi
theorem draw_W {n : Int} {d : PyData} (h : R_draw [.int n] d) : WI 0 (n - 1) d := by
  cases h with
  | @mk _ r h0 h => exact ⟨r, rfl, h0, by omega⟩
theorem fn_law_some (T : Tx K mg) : Fn P w K mg base 4 "_law_some" ["_law_pen"] [] (spPen K (fun ds => ds = []) (fun _ => W_some)) := by
  refine Fn.mk_ T m_law_some rfl g_law_some (fun _ _ _ _ _ _ us hl => match us, hl with | [_], _ => rfl) fun fd F => fn_bodyPr F sc_law_some fun cdv A outer s H E hr p => ?_
  refine spr_ret (pp_call (W := W_some) (fn_part_of T) hr (by decide) (pps_cons (pp_bin0 (W := WI (-40) 40) op_sub (pp_pen 0 (fn_law_draw T) hr (by decide) (fun _ _ _ => pds_cons pd_int pds_nil) (.mk (n := 81) (by decide) (by decide)) (fun d h => draw_W h)) (pp_pd fun _ _ _ => pd_int) ?_) (pps_cons (pp_bin0 (W := WI 1 9) op_add (pp_pd fun _ _ _ => pd_int) (pp_pen 0 (fn_law_draw T) hr (by decide) (fun _ _ _ => pds_cons pd_int pds_nil) (.mk (n := 9) (by decide) (by decide)) (fun d h => draw_W h)) ?_) pps_nil)) ?_) fun d h => h
  · rintro _ _ ⟨r, rfl, h1, h2⟩ rfl
    exact ⟨r, 40, rfl, rfl, r - 40, rfl, by omega, by omega⟩
  · rintro _ _ rfl ⟨r, rfl, h1, h2⟩
    exact ⟨1, r, rfl, rfl, 1 + r, rfl, by omega, by omega⟩
  · rintro _ ⟨_, _, rfl, ⟨r, rfl, h1, h2⟩, _, _, rfl, ⟨s, rfl, h3, h4⟩, rfl⟩
    exact ⟨_, .mk (by omega) (Nat.lt_of_lt_of_le (show s.natAbs < 2 ^ 10 by omega) (Nat.pow_le_pow_right (by decide) (by decide))), _, rfl, r, s, h1, h2, h3, h4, rfl⟩
end
end Gk
end

section
set_option linter.all false
set_option maxRecDepth 100000
namespace Gk
open PySem PySem.Spec PyProof.Rows L2 Evl
/-! ## statements that draw -/
theorem EnvE.perm {K : PySem.W.Frag} {G : List Slot} {D D' : Lists} {t : L2.St} {H : Hp} (E : EnvE K G D t H) (p : D.Perm D') : EnvE K G D' t H := ⟨E.slots, (p.map _).nodup_iff.mp E.nd, fun z hz => E.lists z (p.mem_iff.mpr hz)⟩
theorem Stp.fresh {A : List Addr} {H0 H : Hp} {a : Addr} {o : HO} (s : Stp A H0 H) (n : H0 a = none) : Stp A H0 (L2.upd H a o) := fun b o' e m => by
  have hne : b ≠ a := fun z => by rw [z, n] at e; cases e
  rw [L2.upd_ne hne]
  exact s b o' e m
theorem PenE.put' {K : PySem.W.Frag} {p : Addr} {G : List Slot} {D : Lists} {t : L2.St} {H : Hp} {i : Nat} {v : V} {d : PyData} (E : PenE K p G D t H) (f : Ft K H d v) : PenE K p (G.set i (.dat d)) D (t.set i (some v)) H := E.put f
theorem PenE.slots {K : PySem.W.Frag} {p : Addr} {G : List Slot} {D : Lists} {t : L2.St} {H : Hp} (E : PenE K p G D t H) : SlotsOk K H G t := by
  obtain ⟨a, b, c, h, E⟩ := E
  exact E.slots
theorem PenE.withS {K : PySem.W.Frag} {p : Addr} {G G' : List Slot} {D : Lists} {t t' : L2.St} {H : Hp} (E : PenE K p G D t H) (S : SlotsOk K H G' t') : PenE K p G' D t' H := by
  obtain ⟨a, b, c, h, E⟩ := E
  exact ⟨a, b, c, h, S, E.nd, E.lists⟩
theorem PenE.more {K : PySem.W.Frag} {p : Addr} {G : List Slot} {D : Lists} {t : L2.St} {H : Hp} {a : Addr} {ds : List PyData} {vs : List V} (E : PenE K p G D t H) (n : a ≠ p) (n2 : ∀ z ∈ D, z.1 ≠ a) (h : H a = some (.lst vs)) (f : Fts K H ds vs) : PenE K p G ((a, ds) :: D) t H := by
  obtain ⟨x, y, c, hc, E⟩ := E
  refine ⟨x, y, c, hc, (E.more (fun z hz => ?_) h f).perm (.swap _ _ _)⟩
  rcases List.mem_cons.mp hz with rfl | hz
  · exact fun e => n e.symm
  · exact n2 z hz
theorem PenE.ne {K : PySem.W.Frag} {p : Addr} {G : List Slot} {D : Lists} {t : L2.St} {H : Hp} {a : Addr} (E : PenE K p G D t H) (h : H a = none) : a ≠ p ∧ ∀ z ∈ D, z.1 ≠ a := by
  obtain ⟨x, y, c, hc, E⟩ := E
  have := E.free h
  exact ⟨fun e => this _ (List.mem_cons_self ..) e.symm, fun z hz => this z (List.mem_cons_of_mem _ hz)⟩
def tSN (K : PySem.W.Frag) (p : Addr) (H0 : Hp) (M : List Addr) (G : List Slot) (D : Lists) (N : NP) (Rd : WOne) : TS := fun En t H =>
  Stp [p] H0 H ∧ (∀ a ∈ M, H0 a = none) ∧ PenE K p G D t H ∧ (∀ M' G' D' t' H', Stp [p] H0 H' → (∀ a ∈ M', H0 a = none) → PenE K p G' D' t' H' → N M' G' D' → En.nx t' H') ∧
    (∀ v H' d a b c, Stp [p] H0 H' → PenC a b c → H' p = some (.lst [.int a, .int b, .int c]) → Rd d → Ft K H' d v → En.rt v H')
abbrev SN (X : Cx) (p : Addr) (M : List Addr) (G : List Slot) (D : Lists) (st : Stmt) (N : NP) (Rd : WOne) : Prop := ∀ H0, PS X st (tSN X.K p H0 M G D N Rd)
abbrev SNs (X : Cx) (p : Addr) (M : List Addr) (G : List Slot) (D : Lists) (st : List Stmt) (N : NP) (Rd : WOne) : Prop := ∀ H0, PSs X st (tSN X.K p H0 M G D N Rd)
section
variable {X : Cx} {p : Addr} {M : List Addr} {G : List Slot} {D D1 D2 : Lists} {e a b c : Expr} {W Wa Wb Wc Rd : WOne} {N : NP} {d : PyData} {ds : List PyData} {pos p' pn : Pos} {x y : Str} {st : Stmt} {rest : List Stmt} {i j : Int}
theorem sns_nil (h : N M G D) : SNs X p M G D [] N Rd := fun H0 => PSs.by_ pss_nil fun En t H ⟨x0, fr, E, q, _⟩ => q M G D t H x0 fr E h
theorem sns_cons (h : SN X p M G D st (fun M' G' D' => SNs X p M' G' D' rest N Rd) Rd) : SNs X p M G D (st :: rest) N Rd := fun H0 => by
  have hu : PSs X rest (fun En t H => ∃ M' G' D', SNs X p M' G' D' rest N Rd ∧ tSN X.K p H0 M' G' D' N Rd En t H) := ⟨fun q s c H En I ⟨M', G', D', z, w⟩ => (z H0).run q s c H En I w⟩
  exact PSs.by_ (pss_cons (h H0) hu) fun En t H ⟨x0, fr, E, q, r⟩ => ⟨x0, fr, E, fun M' G' D' t' H' e1 fr' E' z => ⟨M', G', D', z, e1, fr', E', q, r⟩, r⟩
theorem sn_ret (h : PP X p G D e W) (hR : ∀ d, W d → Rd d) : SN X p M G D (.Return (some e) pos) N Rd := fun H0 => PS.by_ (ps_ret h) fun En t H ⟨x0, fr, E, q, r⟩ => ⟨E, fun v H1 d s1 E1 w f => by
  obtain ⟨a, b, c, hc, hl⟩ := E1.lst
  exact r v H1 d a b c (x0.trans s1) hc hl (hR d w) f⟩
theorem sn_asg (i : Nat) (hnd : X.N.Nodup) (h : PP X p G D e W) (hN : ∀ d, W d → N M (G.set i (.dat d)) D) (hi : X.N[i]? = some x := by rfl) (hx : Loc X.env.scope x := by first | exact Or.inl rfl | exact Or.inr rfl)
    (hs : swapsWith e (some (.Name x p')) pos.line X.env = pure false := by rfl) (hf : X.fn x = true ∨ X.env.scope.names.lookup x = some .local := by first | exact .inl rfl | exact .inr rfl) : SN X p M G D (.Assign [.Name x p'] e pos) N Rd := fun H0 =>
  PS.by_ (ps_set hnd hi hx h hs hf) fun En t H ⟨x0, fr, E, q, r⟩ => ⟨E, fun v H1 d s1 E1 w f => q M _ D _ H1 (x0.trans s1) fr (E1.put f) (hN d w)⟩
theorem sn_par (i j : Nat) {px py pt : Pos} {kt k2 pt2} (hnd : X.N.Nodup) (ha : PP X p G D a Wa) (hb : PP X p G D b Wb) (hN : ∀ d1 d2, Wa d1 → Wb d2 → N M ((G.set i (.dat d1)).set j (.dat d2)) D) (hc : X.calm = true := by rfl) (hi : X.N[i]? = some x := by rfl) (hj : X.N[j]? = some y := by rfl) (hij : i ≠ j := by decide)
    (hx : X.env.scope.names.lookup x = some .local := by rfl) (hy : X.env.scope.names.lookup y = some .local := by rfl)
    (hw : swappedStores [.Tuple [.Name x px, .Name y py] kt pt] (.Tuple [a, b] k2 pt2) X.env = pure (some [x, y]) := by rfl)
    (hs : swapsWithSole [.Tuple [.Name x px, .Name y py] kt pt] (.Tuple [a, b] k2 pt2) pos.line X.env = pure false := by rfl)
    (hs1 : starEach [a, b] X.env = (false, eval a X.env) :: starEach [b] X.env := by rfl) (hs2 : starEach [b] X.env = (false, eval b X.env) :: starEach [] X.env := by rfl) : SN X p M G D (.Assign [.Tuple [.Name x px, .Name y py] kt pt] (.Tuple [a, b] k2 pt2) pos) N Rd := fun H0 =>
  PS.by_ (ps_par hc hnd hi hj hij hx hy (pa_cons ha (pa_cons hb pa_nil hs2) hs1) hw hs) fun En t H ⟨x0, fr, E, q, r⟩ => ⟨E, fun v H1 d1 s1 E1 w1 f1 => ⟨E1, fun u H2 d2 s2 E2 w2 f2 => ⟨v, u, rfl, q M _ D _ H2 (x0.trans (s1.trans s2)) fr ((E2.put (f1.monoT (E1.sq s2))).put f2) (hN d1 d2 w1 w2)⟩⟩⟩
theorem sn_par3 (i j l : Nat) {z : Str} {px py pz pt : Pos} {kt k2 pt2} (hnd : X.N.Nodup) (ha : PP X p G D a Wa) (hb : PP X p G D b Wb) (hc3 : PP X p G D c Wc) (hN : ∀ d1 d2 d3, Wa d1 → Wb d2 → Wc d3 → N M (((G.set i (.dat d1)).set j (.dat d2)).set l (.dat d3)) D) (hc : X.calm = true := by rfl) (hi : X.N[i]? = some x := by rfl) (hj : X.N[j]? = some y := by rfl) (hl : X.N[l]? = some z := by rfl)
    (hij : i ≠ j := by decide) (hil : i ≠ l := by decide) (hjl : j ≠ l := by decide)
    (hx : X.env.scope.names.lookup x = some .local := by rfl) (hy : X.env.scope.names.lookup y = some .local := by rfl) (hz : X.env.scope.names.lookup z = some .local := by rfl)
    (hw : swappedStores [.Tuple [.Name x px, .Name y py, .Name z pz] kt pt] (.Tuple [a, b, c] k2 pt2) X.env = pure (some [x, y, z]) := by rfl)
    (hs : swapsWithSole [.Tuple [.Name x px, .Name y py, .Name z pz] kt pt] (.Tuple [a, b, c] k2 pt2) pos.line X.env = pure false := by rfl)
    (hs1 : starEach [a, b, c] X.env = (false, eval a X.env) :: starEach [b, c] X.env := by rfl) (hs2 : starEach [b, c] X.env = (false, eval b X.env) :: starEach [c] X.env := by rfl) (hs3 : starEach [c] X.env = (false, eval c X.env) :: starEach [] X.env := by rfl) : SN X p M G D (.Assign [.Tuple [.Name x px, .Name y py, .Name z pz] kt pt] (.Tuple [a, b, c] k2 pt2) pos) N Rd := fun H0 =>
  PS.by_ (ps_par3 hc hnd hi hj hl hij hil hjl hx hy hz (pa_cons ha (pa_cons hb (pa_cons hc3 pa_nil hs3) hs2) hs1) hw hs) fun En t H ⟨x0, fr, E, q, r⟩ => ⟨E, fun v H1 d1 s1 E1 w1 f1 => ⟨E1, fun u H2 d2 s2 E2 w2 f2 => ⟨E2, fun w H3 d3 s3 E3 w3 f3 =>
    ⟨v, u, w, rfl, q M _ D _ H3 (x0.trans (s1.trans (s2.trans s3))) fr (((E3.put ((f1.monoT (E1.sq s2)).monoT (E2.sq s3))).put (f2.monoT (E2.sq s3))).put f3) (hN d1 d2 d3 w1 w2 w3)⟩⟩⟩⟩
/-- tests that draw -/
abbrev PPQ (X : Cx) (p : Addr) (G : List Slot) (D : Lists) (e : Expr) (b : Bool) : Prop := PT X e (fun t H Q => PenE X.K p G D t H ∧ ∀ H', Stp [p] H H' → PenE X.K p G D t H' → Q b H')
abbrev PPW (X : Cx) (p : Addr) (G : List Slot) (D : Lists) (e : Expr) (b : Bool) : Prop := PW X e (fun t H Q => PenE X.K p G D t H ∧ ∀ H', Stp [p] H H' → PenE X.K p G D t H' → Q b H')
variable {q1 q2 : Bool}
theorem ppq_val (h : PP X p G D e (fun d => d = .bool q1)) (he : ∀ whole, isTrue e X.env whole = (do let v ← whole; standAt e.pos; holding [v] (truthy v)) := by intro _; rfl) : PPQ X p G D e q1 :=
  PT.by_ (pt_val h he) fun t H Q ⟨E, r⟩ => ⟨E, fun v H1 d s1 E1 w f => by
    subst w
    exact ⟨q1, f, r H1 s1 E1⟩⟩
theorem ppq_not (h : PPQ X p G D e q1) : PPQ X p G D (.UnaryOp .Not e pos) (!q1) := PT.by_ (pt_not h) fun t H Q ⟨E, r⟩ => ⟨E, fun H1 s1 E1 => r H1 s1 E1⟩
theorem ppw_or1 (h : PPQ X p G D a q1) : PPW X p G D (.BoolOp .Or [a] pos) q1 := pw_or1 h
theorem ppw_or {rest : List Expr} (h : PPQ X p G D a q1) (hr : q1 = false → PPW X p G D (.BoolOp .Or (b :: rest) pos) q2) : PPW X p G D (.BoolOp .Or (a :: b :: rest) pos) (q1 || q2) := by
  cases q1 with
  | true => exact PW.by_ (pw_or h PW.dead) fun t H Q ⟨E, r⟩ => ⟨E, fun H1 s1 E1 => iteT (r H1 s1 E1)⟩
  | false => exact PW.by_ (pw_or h (hr rfl)) fun t H Q ⟨E, r⟩ => ⟨E, fun H1 s1 E1 => iteF ⟨E1, fun H2 s2 E2 => r H2 (s1.trans s2) E2⟩⟩
theorem ppq_w (h : PPW X p G D e q1) : PPQ X p G D e q1 := PW.pt h
/-- if what does not hold: return -/
theorem sn_if0 {s1 : List Stmt} (h : PPQ X p G D c false) (hN : N M G D) : SN X p M G D (.If c s1 [] pos) N Rd := fun H0 =>
  PS.by_ (ps_if h pss_never pss_nil) fun En t H ⟨x0, fr, E, q, r⟩ => ⟨E, fun H1 s1 E1 => iteF (q M G D t H1 (x0.trans s1) fr E1 hN)⟩
theorem sn_asgL (i : Nat) (hnd : X.N.Nodup) (h : ∀ a b c, PL X G ((p, dPen a b c) :: D) e ds) (hN : ∀ l, N (l :: M) (G.set i (.ref l)) ((l, ds) :: D)) (hi : X.N[i]? = some x := by rfl) (hx : Loc X.env.scope x := by first | exact Or.inl rfl | exact Or.inr rfl)
    (hs : swapsWith e (some (.Name x p')) pos.line X.env = pure false := by rfl) (hf : X.fn x = true ∨ X.env.scope.names.lookup x = some .local := by first | exact .inl rfl | exact .inr rfl) : SN X p M G D (.Assign [.Name x p'] e pos) N Rd := fun H0 => by
  have hu : PE X e (fun t H Q => ∃ a b c, tL X.K G ((p, dPen a b c) :: D) ds t H Q) := ⟨fun q s c' H Q I ⟨a, b, c, z⟩ => (h a b c).run q s c' H Q I z⟩
  refine PS.by_ (ps_set hnd hi hx hu hs hf) fun En t H ⟨x0, fr, E, q, r⟩ => ?_
  have E0 := E
  obtain ⟨a, b, c, hc, E⟩ := E
  refine ⟨a, b, c, E, fun l vs H1 n e1 s f => ?_⟩
  obtain ⟨n1, n2⟩ := E0.ne n
  have n0 : H0 l = none := by
    cases hz : H0 l with
    | none => rfl
    | some o =>
      have := x0 l o hz (fun m => n1 (List.mem_singleton.mp m))
      rw [n] at this
      cases this
  refine q (l :: M) _ _ _ H1 (x0.trans (Stp.ex e1)) (fun z hz => ?_) (((E0.mono e1).more n1 n2 s f).withS ?_) (hN l)
  · rcases List.mem_cons.mp hz with rfl | hz
    · exact n0
    · exact fr z hz
  · exact (E0.mono e1).slots.set i (x := some (.ref l)) rfl
theorem PenE.updL {K : PySem.W.Frag} {t : L2.St} {H : Hp} {l : Addr} {es : List PyData} {ws : List V} (E : PenE K p G (D1 ++ (l, ds) :: D2) t H) (f : Fts K H es ws) : PenE K p G (D1 ++ (l, es) :: D2) t (L2.upd H l (.lst ws)) := by
  obtain ⟨a, b, c, hc, E⟩ := E
  exact ⟨a, b, c, hc, EnvE.upd (D1 := (p, dPen a b c) :: D1) E f⟩
theorem PenE.at_ {K : PySem.W.Frag} {t : L2.St} {H : Hp} {l : Addr} (E : PenE K p G D t H) (h : (l, ds) ∈ D) : ∃ vs, H l = some (.lst vs) ∧ Fts K H ds vs := by
  obtain ⟨a, b, c, hc, E⟩ := E
  exact E.lists _ (List.mem_cons_of_mem _ h)
theorem PenE.rf {K : PySem.W.Frag} {t : L2.St} {H : Hp} {i : Nat} {l : Addr} (E : PenE K p G D t H) (h : G[i]? = some (.ref l)) : t[i]? = some (some (.ref l)) := by
  obtain ⟨a, b, c, hc, E⟩ := E
  exact E.rf h
theorem sn_app (i : Nat) {a : Addr} {p1 p2 : Pos} (h : PP X p G (D1 ++ (a, ds) :: D2) e W) (hz : ds.length ≤ 1000) (hN : ∀ d, W d → N M G (D1 ++ (a, ds ++ [d]) :: D2)) (hg : G[i]? = some (.ref a) := by rfl) (ha : a ∈ M := by simp) (hi : X.N[i]? = some x := by rfl)
    (hv : Vis X.env.scope x := by first | exact Or.inl rfl | exact Or.inr (Or.inl rfl) | exact Or.inr (Or.inr rfl)) (hd : (x == ("__debug__" : Str)) = false := by decide) (hcd : (x == ("__classdict__" : Str)) = false := by decide)
    (hs1 : starEach [e] X.env = (false, eval e X.env) :: starEach [] X.env := by rfl) (hb : attributeBase (.Name x pn) "append" X.env (eval (.Name x pn) X.env) = eval (.Name x pn) X.env := by rfl)
    (hf : ((backTo p2 (starEach [e] X.env)).all (fun x => !x.1) && (backToKw p2 (keywordEach [] X.env)).all (fun x => x.1.isSome) && decide ([e].length + ([] : List Keyword).length + (if ([] : List Keyword).isEmpty then 0 else 1) < 30)) = true := by rfl)
    (hl : (p1.endLine == p2.line) = true := by rfl) (hs : swapsWith (.Call (.Attribute (.Name x pn) "append" p1) [e] [] p2) none pos.line X.env = pure false := by rfl) :
    SN X p M G (D1 ++ (a, ds) :: D2) (.Expr (.Call (.Attribute (.Name x pn) "append" p1) [e] [] p2) pos) N Rd := fun H0 =>
  PS.by_ (ps_expr (pe_bm PySem.F.plainAttrs_list PySem.F.slot_list_append PySem.F.type_list_append mt_append (pe_var hi hv hd hcd) (pa_cons h pa_nil hs1) hb hf hl hs1 (by rfl)) hs) fun En t H ⟨x0, fr, E, q, r⟩ => by
    have hm : (a, ds) ∈ D1 ++ (a, ds) :: D2 := List.mem_append_right _ (List.mem_cons_self ..)
    obtain ⟨vs, h1, _⟩ := E.at_ hm
    refine ⟨_, E.rf hg, .inl ⟨rfl, _, SqL.of h1⟩, E, fun v H1 d s1 E1 w f => ?_⟩
    obtain ⟨us, h3, h4⟩ := E1.at_ hm
    refine ⟨a, us, v, rfl, rfl, h3, sz_lt (by have hl : us.length = ds.length := h4.len; omega), ?_⟩
    exact q M G _ t _ ((x0.trans s1).fresh (fr a ha)) fr (E1.updL (h4.app (Fts.one f))) (hN d w)
/-- for k in range(what was drawn) -/
theorem sn_for {n : Int} {tg : Expr} {body : List Stmt} {is : List Nat} (P : Nat → NP) (h : PP X p G D a (WI 0 n)) (hm : X.mg "range" = none) (hn : n < 1000) (h0 : P 0 M G D)
    (hs : ∀ (i : Nat) M' G' D', (i : Int) < n → P i M' G' D' → ∃ G2, PGd X is G' tg (.int i) G2 ∧ SNs X p M' G2 D' body (P (i + 1)) Rd) (hd : ∀ (i : Nat) M' G' D', (i : Int) ≤ n → P i M' G' D' → N M' G' D')
    (hg : Gl X "range" := by rfl) (hse : starEach [a] X.env = [(false, eval a X.env)] := by rfl)
    (hp : PassesOwn (model X.prog X.w) X.A X.env X.xe := by exact PassesOwn.never) (hc : X.calm = true := by rfl) (hf : ∀ x, foldedSetIterable (.Call (.Name "range" p') [a] [] pn) X.env x = pure x := by intro _; rfl) : SN X p M G D (.For tg (.Call (.Name "range" p') [a] [] pn) body [] pos) N Rd := fun H0 => by
  let g : TG := fun x t H k => ∃ d G' G2, PGd X is G' tg d G2 ∧ tG X.K is G' d G2 x t H k
  have hgg : PG X tg g := ⟨fun p s t H v u Q I r ⟨d, G', G2, z, q⟩ => z.run p s t H v u Q I r q⟩
  let tb : TS := fun En t H => ∃ i M' G' D', SNs X p M' G' D' body (P i) Rd ∧ tSN X.K p H0 M' G' D' (P i) Rd En t H
  have hb : PSs X body tb := ⟨fun p s t H En I ⟨i, M', G', D', z, q⟩ => (z H0).run p s t H En I q⟩
  refine PS.by_ (ps_for hp hc (pi_range1 hg hm (pa_cons h pa_nil hse) hse) hgg hb hf) fun En t H ⟨x0, fr, E, q, r⟩ => ⟨E, fun v H1 d s1 E1 ⟨m, ed, hm0, hm1⟩ f => ?_⟩
  subst ed
  have ev : v = .int m := f
  subst ev
  refine ⟨m, rfl, by omega, by omega, ?_⟩
  let I : Nat → L2.St → Hp → Prop := fun i t' H' => i ≤ m.toNat ∧ Stp [p] H0 H' ∧ ∃ M' G' D', (∀ a ∈ M', H0 a = none) ∧ PenE X.K p G' D' t' H' ∧ P i M' G' D'
  refine ⟨fun i k t' H' => k = m.toNat - i ∧ I i t' H', ⟨m.toNat, rfl, Nat.zero_le _, x0.trans s1, M, G, D, fr, E1, h0⟩, ?_⟩
  rintro i k t' H' ⟨rfl, hle, x1, M', G', D', fr', E', pi⟩
  by_cases hlt : i < m.toNat
  · refine .inr ⟨hlt, I (i + 1), fun t2 H2 z => ⟨_, by have := z.1; omega, rfl, z⟩, fun v H2 y => ?_⟩
    obtain ⟨rfl, rfl⟩ := y
    obtain ⟨G2, hG, hB⟩ := hs i M' G' D' (by omega) pi
    refine ⟨.int i, G', G2, hG, E'.slots, (by show V.int (0 + (i : Int)) = V.int i; rw [Int.zero_add]), fun t3 S3 _ => ⟨i + 1, M', G2, D', hB, x1, fr', E'.withS S3, fun M4 G4 D4 t4 H4 x4 fr4 E4 p4 => ?_, r⟩⟩
    exact ⟨hlt, x4, M4, G4, D4, fr4, E4, p4⟩
  · have ei : i = m.toNat := by omega
    subst ei
    exact .inl ⟨Nat.le_refl _, q M' G' D' t' H' x1 fr' E' (hd _ _ _ _ (by omega) pi)⟩
end
end Gk
end

section
set_option linter.all false
set_option maxRecDepth 100000
namespace Gk
open PySem PySem.Spec PyProof.Rows L2 Evl
section
variable {X : Cx} {p : Addr} {M : List Addr} {G : List Slot} {D D1 D2 : Lists} {e a b c : Expr} {W Wa Wb Wc Rd : WOne} {N : NP} {d : PyData} {ds : List PyData} {pos p' pn : Pos} {x y : Str}
theorem pp_cat (ha : PP X p G D a Wa) (hb : PP X p G D b Wb) (hW : ∀ d1 d2, Wa d1 → Wb d2 → ∃ ds es, d1 = .tuple ds ∧ d2 = .tuple es ∧ ds.length + es.length ≤ 1000 ∧ W (.tuple (ds ++ es))) : PP X p G D (.BinOp a .Add b pos) W :=
  PE.by_ (pe_op op_catA ha hb) fun t H Q ⟨E, q⟩ => ⟨E, fun v H1 d1 st1 E1 w1 f1 => ⟨E1, fun u H2 d2 st2 E2 w2 f2 => by
    obtain ⟨ds, es', rfl, rfl, hl, w⟩ := hW d1 d2 w1 w2
    obtain ⟨p, xs, rfl, s1, g1⟩ := f1.monoT (E1.sq st2)
    obtain ⟨p2, ys, rfl, s2, g2⟩ := f2
    refine ⟨p, p2, xs, ys, rfl, rfl, s1, s2, sz_of (by rw [g1.len, g2.len]; omega), fun hx => ?_, fun hx hy => ?_, fun hx hy r hr => ?_⟩
    · have e0 : ds = [] := List.length_eq_zero_iff.mp (by rw [← g1.len, hx]; rfl)
      subst e0
      exact q _ H2 _ (st1.trans st2) E2 w ⟨p2, ys, rfl, s2, g2⟩
    · have e0 : es' = [] := List.length_eq_zero_iff.mp (by rw [← g2.len, hy]; rfl)
      subst e0
      rw [List.append_nil] at w
      exact q _ H2 _ (st1.trans st2) E2 w ⟨p, xs, rfl, s1, g1⟩
    · exact q _ _ _ (st1.trans (st2.trans (Stp.ex (Ex.new hr)))) (E2.mono (Ex.new hr)) w (ft_tup hr (g1.app g2))⟩⟩
/-- a list display at a drawn place -/
theorem pp_ixL {n : Int} (ha : ∀ x y z, PL X G ((p, dPen x y z) :: D) a ds) (hb : PP X p G D b (WI 0 n)) (h : ∀ i : Int, 0 ≤ i → i ≤ n → ∃ d, atI ds i = some d ∧ W d) (hp : PlainIx b := by exact fun _ _ => rfl) : PP X p G D (.Subscript a b pos) W := by
  have hu : PE X a (fun t H Q => ∃ x y z, tL X.K G ((p, dPen x y z) :: D) ds t H Q) := ⟨fun q s c' H Q I ⟨x, y, z, w⟩ => (ha x y z).run q s c' H Q I w⟩
  refine PE.by_ (pe_ix ix_list hu hb hp) fun t H Q ⟨E, q⟩ => ?_
  have E0 := E
  obtain ⟨x, y, z, hc, E⟩ := E
  refine ⟨x, y, z, E, fun l vs H1 n1 e1 h1 f1 => ⟨E0.mono e1, fun u H2 d2 st2 E2 ⟨i, ed, hi0, hi1⟩ f2 => ?_⟩⟩
  subst ed
  have eu : u = .int i := f2
  subst eu
  obtain ⟨d, hd, w⟩ := h i hi0 hi1
  obtain ⟨z, hz, fz⟩ := at_fts (f1.monoT ((E0.mono e1).sq st2)) hd
  exact ⟨l, vs, i, z, rfl, rfl, SqL.of (st2 _ _ h1 (fun m => (E0.ne n1).1 (List.mem_singleton.mp m))), hz, q z H2 d ((Stp.ex e1).trans st2) E2 w fz⟩
end
section
variable {P : Program} {w : World} {K : PySem.W.Frag} {mg : Str → Option Value} {base : Heap}
theorem fn_bodyPn {x qual : Str} {params : Arguments} {body : List Stmt} {scope : Scope} {dvs : List V} {kws : List (Str × V)} {f : Addr} {fd : FuncData} {N : List Str} {k : Nat} {y : Str} {W : WOne} (F : FunD K x qual params body scope dvs kws f fd) (S : FnScope N [y] scope)
    (hbody : ∀ (cdv : Value) (A : Around) (outer : List Env) (s : Shared) (H : Hp) (E : XK), Room k (A.deeper (envOfC qual scope s.heap.objs.size f cdv)) → ∀ p,
      SNs (cxOf CX0 P w K mg base N qual scope f cdv A outer s H E).nox p [] (.ref p :: List.replicate (N.length - 1) .no) [] body (fun _ _ _ => False) W) : FnOk P w K mg base CX0 (k + 1) f fd [y] (spPen K (fun ds => ds = []) (fun _ => W)) := by
  refine FunD.ok F S (fun vs H Q E h => ?_) (fun cdv A outer s H vs Q E hr h => ?_)
  · obtain ⟨p, us, ds, a, b, c, rfl, _, _, hf, hp, _⟩ := h
    rw [List.length_cons, hf.len, hp] <;> rfl
  · obtain ⟨p, us, ds, a, b, c, rfl, hc, hl, hf, hp, q⟩ := h
    subst hp
    have eu : us = [] := hf
    subst eu
    have hb := hbody cdv A outer s H E hr p H
    refine ⟨_, hb.nox, Stp.refl _ H, (fun _ z => nomatch z), ⟨a, b, c, hc, ?_, by simp, fun z hz => ?_⟩, fun _ _ _ _ _ _ _ _ z => z.elim, fun v H' d a' b' c' st hc' hl' hd fv => q v H' d a' b' c' st hc' hl' hd fv⟩
    · exact ⟨_, _, rfl, rfl, slots_start (ds := []) (N.length - 1) rfl⟩
    · rw [List.mem_singleton.mp hz]
      exact ⟨_, hl, Fts.of_ints [a, b, c]⟩
/-! ### _law_pen_of -/
def leftI (i : Int) : Int := if 0 - i > i then 0 - i else i
inductive R_law_pen_of : List PyData → Res → Prop
  | mk {i : Int} : R_law_pen_of [.int i] (.lst (dPen (leftI i) (if decide ((10 : Int) ^ 18 ≤ leftI i) = true then 1 else 0) (leftI i % 1000003)))
theorem sc_law_pen_of : FnScope ["_law_cell", "_law_left"] ["_law_cell"] (defScope s_law_pen_of) := ⟨rfl, rfl, rfl, by decide +kernel, rfl, by decide +kernel, by decide +kernel⟩
theorem fn_law_pen_of (T : Tx K mg) : Fn P w K mg base 1 "_law_pen_of" ["_law_cell"] [] (spD K R_law_pen_of) := by
  refine Fn.mk_ T m_law_pen_of rfl g_law_pen_of (fun _ _ _ _ _ _ us hl => match us, hl with | [_], _ => rfl) fun fd F => fn_body F sc_law_pen_of (by rintro _ _ ⟨⟩; rfl) fun cdv A outer s H E hr ds r hR => ?_
  cases hR with
  | @mk i =>
    refine sds_cons (sd_asg 1 sc_law_pen_of.nd (pd_max rfl (pd_var 0) (pd_sub pd_int (pd_var 0)) T.max) ?_)
    refine sds_cons (sd_retL (pl_lst (pds_cons (pd_var 1) (pds_cons (pd_intB (pd_cmp (cd_ge (pd_var 1) (pd_pow pd_int pd_int ?_))) T.int) (pds_cons (pd_mod (pd_var 1) pd_int (by decide)) pds_nil)))) rfl)
    exact ⟨by decide, by decide, by decide⟩
/-! ### _law_told -/
def Dl : Nat := 2520
def Ml : Nat := 126000
theorem gr_lit {r s : Int} (h1 : -50 ≤ r) (h2 : r ≤ 50) (k : Nat) (hk : s * (k : Int) = 2520) : Gr Dl Ml (Rat.divInt r s) := by
  have hs : s ≠ 0 := by
    intro z
    rw [z] at hk
    omega
  have hk0 : (k : Int) ≤ 2520 := by
    rcases Int.lt_or_gt_of_ne hs with h | h
    · have : s * (k : Int) ≤ 0 := Int.mul_nonpos_of_nonpos_of_nonneg (by omega) (by omega)
      omega
    · have : (1 : Int) * k ≤ s * k := Int.mul_le_mul_of_nonneg_right (by omega) (by omega)
      omega
  refine ⟨r * k, ?_, ?_⟩
  · have e : ((Dl : Nat) : Rat) = (s : Rat) * (k : Rat) := by
      have h3 : ((s * (k : Int) : Int) : Rat) = ((2520 : Int) : Rat) := by rw [hk]
      rw [Rat.intCast_mul] at h3
      exact h3.symm
    have hs' : (s : Rat) ≠ 0 := fun z => hs (Rat.intCast_inj.mp z)
    rw [e, Rat.divInt_eq_div, Rat.intCast_mul]
    have : (r : Rat) / (s : Rat) * ((s : Rat) * (k : Rat)) = (r : Rat) * k := by grind
    exact this
  · have : (r * (k : Int)).natAbs = r.natAbs * k := by rw [Int.natAbs_mul]; rfl
    rw [this]
    have h3 : r.natAbs ≤ 50 := by omega
    have h4 : r.natAbs * k ≤ 50 * 2520 := Nat.mul_le_mul h3 (by omega)
    exact h4
theorem lit_gr {q : Rat} (h : Lit q) : Gr Dl Ml q := by
  obtain ⟨r, s, h1, h2, h3, h4, rfl⟩ := h
  have : s = 1 ∨ s = 2 ∨ s = 3 ∨ s = 4 ∨ s = 5 ∨ s = 6 ∨ s = 7 ∨ s = 8 ∨ s = 9 := by omega
  rcases this with rfl | rfl | rfl | rfl | rfl | rfl | rfl | rfl | rfl
  · exact gr_lit (by omega) (by omega) 2520 rfl
  · exact gr_lit (by omega) (by omega) 1260 rfl
  · exact gr_lit (by omega) (by omega) 840 rfl
  · exact gr_lit (by omega) (by omega) 630 rfl
  · exact gr_lit (by omega) (by omega) 504 rfl
  · exact gr_lit (by omega) (by omega) 420 rfl
  · exact gr_lit (by omega) (by omega) 360 rfl
  · exact gr_lit (by omega) (by omega) 315 rfl
  · exact gr_lit (by omega) (by omega) 280 rfl
structure TelW (t : Tel) : Prop where
  ok : TelOk Dl Ml t
  lo0 : ∀ a, t.low = some a → a ≤ 0
  hi0 : ∀ b, t.high = some b → 0 ≤ b
def W_told : WOne := fun d => ∃ t, d = dTel t ∧ TelW t
def FloorW (q : Rat) : Prop := Gr Dl Ml q ∧ q ≤ 0
def TopW (q : Rat) : Prop := Gr Dl Ml q ∧ 0 ≤ q
theorem told_w {i j : Int} {lo hi : Option Rat} (h1 : 0 ≤ i ∧ i < 6) (h2 : 0 ≤ j ∧ j < 6) (hn : i ≠ j) (hl : ∀ a, lo = some a → FloorW a) (hh : ∀ b, hi = some b → TopW b) (hs : lo ≠ none ∨ hi ≠ none) : W_told (.tuple [.int i, .int j, dO lo, dO hi]) := by
  refine ⟨⟨i.toNat, j.toNat, lo, hi⟩, ?_, ⟨⟨by show i.toNat < 6; omega, by show j.toNat < 6; omega, by show i.toNat ≠ j.toNat; omega, hs, fun a b ha hb => ?_, fun a ha => (hl a ha).1, fun a ha => (hh a ha).1⟩, fun a ha => (hl a ha).2, fun a ha => (hh a ha).2⟩⟩
  · show _ = PyData.tuple [.int (i.toNat : Int), .int (j.toNat : Int), dO lo, dO hi]
    rw [Int.toNat_of_nonneg h1.1, Int.toNat_of_nonneg h2.1]
  · have := (hl a ha).2
    have := (hh b hb).2
    grind
theorem divInt_sgn {r s : Int} (hs : 0 < s) : (0 ≤ r → 0 ≤ Rat.divInt r s) ∧ (r ≤ 0 → Rat.divInt r s ≤ 0) := by
  refine ⟨fun h => Rat.divInt_nonneg h (by omega), fun h => ?_⟩
  have h1 := Rat.divInt_nonneg (a := -r) (b := s) (by omega) (by omega)
  rw [← Rat.neg_divInt] at h1
  grind
theorem sc_law_told : FnScope ["_law_pen", "_law_mine", "_law_yours", "_law_floor", "_law_top_end"] ["_law_pen"] (defScope s_law_told) := ⟨rfl, rfl, rfl, by decide +kernel, rfl, by decide +kernel, by decide +kernel⟩
theorem nat9 {s : Int} (h : s.natAbs < 2 ^ 10) : s.natAbs < 2 ^ 9000 := Nat.lt_of_lt_of_le h (Nat.pow_le_pow_right (by decide) (by decide))
section
variable {X : Cx} {p : Addr} {G : List Slot} {D : Lists} {n : Nat} {pos pn : Pos} {y : Str}
/-- a draw -/
theorem pp_draw (T : Tx X.K X.mg) (i : Nat) (m : Int) {y' pi : Pos} {j} (hr : Room n X.A) (hk : 2 ≤ n) (h0 : 0 < m) (h1 : m < 1000) (hG : G[i]? = some (.ref p) := by rfl) (hN : X.N[i]? = some y := by rfl) (hv : Vis X.env.scope y := by first | exact Or.inl rfl | exact Or.inr (Or.inl rfl) | exact Or.inr (Or.inr rfl)) (hd : (y == ("__debug__" : Str)) = false := by decide) (hcd : (y == ("__classdict__" : Str)) = false := by decide) (hg : Gl X "_law_draw" := by rfl)
    (he : starEach [.Name y y', .Constant (.int m) j pi] X.env = (false, eval (.Name y y') X.env) :: starEach [.Constant (.int m) j pi] X.env := by rfl) (he2 : starEach [.Constant (.int m) j pi] X.env = (false, eval (.Constant (.int m) j pi) X.env) :: starEach [] X.env := by rfl) (hpl : (backTo pos (starEach [.Constant (.int m) j pi] X.env)).any (·.1) = false := by rfl) :
    PP X p G D (.Call (.Name "_law_draw" pn) [.Name y y', .Constant (.int m) j pi] [] pos) (WI 0 (m - 1)) :=
  pp_pen i (fn_law_draw T) hr hk (fun _ _ _ => pds_cons pd_int pds_nil he2) (.mk h0 h1) (fun d h => draw_W h) hG hN hv hd hcd hg (by decide) he hpl
end
theorem fn_law_told (T : Tx K mg) : Fn P w K mg base 4 "_law_told" ["_law_pen"] [] (spPen K (fun ds => ds = []) (fun _ => W_told)) := by
  refine Fn.mk_ T m_law_told rfl g_law_told (fun _ _ _ _ _ _ us hl => match us, hl with | [_], _ => rfl) fun fd F => fn_bodyPn F sc_law_told fun cdv A outer s H E hr p => ?_
  refine sns_cons (sn_asg 1 sc_law_told.nd (pp_draw T 0 6 hr (by decide) (by decide) (by decide)) fun d1 h1 => ?_)
  obtain ⟨mine, rfl, m0, m1⟩ := h1
  refine sns_cons (sn_asg 2 sc_law_told.nd (W := fun d => ∃ j, d = .int j ∧ 0 ≤ j ∧ j < 6 ∧ mine ≠ j) (pp_bin op_mod (pp_bin0 (W := WI (mine + 1) (mine + 5)) op_add (pp_pd fun _ _ _ => pd_add (pd_var 1) pd_int) (pp_draw T 0 5 hr (by decide) (by decide) (by decide)) ?_) (pp_pd fun _ _ _ => pd_int) ?_) fun d2 h2 => ?_)
  · rintro _ _ rfl ⟨r, rfl, r0, r1⟩
    exact ⟨_, _, rfl, rfl, _, rfl, by omega, by omega⟩
  · rintro _ _ ⟨r, rfl, r0, r1⟩ rfl
    exact ⟨_, _, rfl, rfl, by show (0 : Int) < 6; omega, _, rfl, by omega, by omega, by omega⟩
  obtain ⟨yours, rfl, y0, y1, hne⟩ := h2
  refine sns_cons (sn_par (Wa := fun d => ∃ q, d = dP q ∧ FloorW q) (Wb := fun d => ∃ q, d = dP q ∧ TopW q) 3 4 sc_law_told.nd
    (pp_call (fn_part_of T) hr (by decide) (pps_cons (pp_bin0 (W := WI (-39) 0) op_sub (pp_pd fun _ _ _ => pd_int) (pp_draw T 0 40 hr (by decide) (by decide) (by decide)) ?_) (pps_cons (pp_bin0 (W := WI 1 4) op_add (pp_pd fun _ _ _ => pd_int) (pp_draw T 0 4 hr (by decide) (by decide) (by decide)) ?_) pps_nil)) ?_)
    (pp_call (fn_part_of T) hr (by decide) (pps_cons (pp_draw T 0 40 hr (by decide) (by decide) (by decide)) (pps_cons (pp_pd fun _ _ _ => pd_int) pps_nil)) ?_) fun d3 d4 h3 h4 => ?_)
  · rintro _ _ rfl ⟨r, rfl, r0, r1⟩
    exact ⟨_, _, rfl, rfl, _, rfl, by omega, by omega⟩
  · rintro _ _ rfl ⟨r, rfl, r0, r1⟩
    exact ⟨_, _, rfl, rfl, _, rfl, by omega, by omega⟩
  · rintro _ ⟨_, _, rfl, ⟨r, rfl, r0, r1⟩, _, _, rfl, ⟨s, rfl, s0, s1⟩, rfl⟩
    refine ⟨_, .mk (by omega) (nat9 (by omega)), _, rfl, ?_, (divInt_sgn (by omega)).2 r1⟩
    have : s = 1 ∨ s = 2 ∨ s = 3 ∨ s = 4 := by omega
    rcases this with rfl | rfl | rfl | rfl
    · exact gr_lit (by omega) (by omega) 2520 rfl
    · exact gr_lit (by omega) (by omega) 1260 rfl
    · exact gr_lit (by omega) (by omega) 840 rfl
    · exact gr_lit (by omega) (by omega) 630 rfl
  · rintro _ ⟨_, _, rfl, ⟨r, rfl, r0, r1⟩, _, _, rfl, rfl, rfl⟩
    exact ⟨_, .mk (by decide) (nat9 (by decide)), _, rfl, gr_lit (by omega) (by omega) 840 rfl, (divInt_sgn (by decide)).1 r0⟩
  obtain ⟨lo, rfl, hlo⟩ := h3
  obtain ⟨hi, rfl, hhi⟩ := h4
  refine sns_cons (sn_ret (pp_cat (W := W_told) (pp_pd fun _ _ _ => pd_tup (pds_cons (pd_var 1) (pds_cons (pd_var 2) pds_nil))) (pp_ixL (W := fun d => ∃ l h : Option Rat, d = .tuple [dO l, dO h] ∧ (∀ a, l = some a → FloorW a) ∧ (∀ b, h = some b → TopW b) ∧ (l ≠ none ∨ h ≠ none))
    (fun _ _ _ => pl_lst (pds_cons (pd_tup (pds_cons (pd_var 3) (pds_cons (pd_var 4) pds_nil))) (pds_cons (pd_tup (pds_cons (pd_var 3) (pds_cons pd_non pds_nil))) (pds_cons (pd_tup (pds_cons pd_non (pds_cons (pd_var 4) pds_nil))) pds_nil)))) (pp_draw T 0 3 hr (by decide) (by decide) (by decide)) ?_) ?_) fun d h => h)
  · intro i i0 i1
    have : i = 0 ∨ i = 1 ∨ i = 2 := by omega
    rcases this with rfl | rfl | rfl
    · exact ⟨.tuple [dO (some lo), dO (some hi)], rfl, some lo, some hi, rfl, fun a h => by cases h; exact hlo, fun a h => by cases h; exact hhi, .inl (by simp)⟩
    · exact ⟨.tuple [dO (some lo), dO none], rfl, some lo, none, rfl, fun a h => by cases h; exact hlo, nofun, .inl (by simp)⟩
    · exact ⟨.tuple [dO none, dO (some hi)], rfl, none, some hi, rfl, nofun, fun a h => by cases h; exact hhi, .inr (by simp)⟩
  · rintro _ _ rfl ⟨l, h, rfl, h1, h2, h3⟩
    exact ⟨_, _, rfl, rfl, Nat.le_of_ble_eq_true rfl, told_w ⟨m0, by omega⟩ ⟨y0, y1⟩ hne h1 h2 h3⟩
end
end Gk
end

section
set_option linter.all false
set_option maxRecDepth 100000
namespace Gk
open PySem PySem.Spec PyProof.Rows L2 Evl
theorem divInt_le {r s u t : Int} (hs : 0 < s) (ht : 0 < t) (h : r * t ≤ u * s) : Rat.divInt r s ≤ Rat.divInt u t := by
  have h1 := Rat.divInt_nonneg (a := u * s - r * t) (b := t * s) (by omega) (Int.le_of_lt (Int.mul_pos ht hs))
  rw [← Rat.divInt_sub_divInt _ _ (by omega) (by omega)] at h1
  grind
theorem divInt_lt {r s u t : Int} (hs : 0 < s) (ht : 0 < t) (h : r * t < u * s) : Rat.divInt r s < Rat.divInt u t := by
  refine Rat.lt_of_le_of_ne (divInt_le hs ht (by omega)) fun z => ?_
  rw [Rat.divInt_eq_divInt_iff (by omega) (by omega)] at z
  omega
/-! ### _law_dial -/
/-- one setting: its moment lies in the k-th third and the next, it jumps -/
def SetW (k : Nat) (s : Rat × Rat) : Prop := ∃ r : Int, (r = 0 ∨ r = 1) ∧ s.1 = Rat.divInt (2 * k + r) 3 ∧ ∃ g : Int, (g = 1 ∨ g = -1) ∧ s.2 = Rat.divInt (g * (1 + k)) 5
theorem set_ok {k : Nat} {s : Rat × Rat} (h : SetW k s) (hk : k ≤ 4) : 0 ≤ s.1 ∧ s.2 ≠ 0 ∧ Sk 60 s.1 ∧ Sk 60 s.2 := by
  obtain ⟨r, hr, e1, g, hg, e2⟩ := h
  rw [e1, e2]
  refine ⟨Rat.divInt_nonneg (by omega) (by decide), fun z => ?_, sk_divInt (by decide) (Nat.lt_of_lt_of_le (show _ < 2 ^ 10 by omega) (by decide)) (by decide), sk_divInt (by decide) (Nat.lt_of_lt_of_le (show _ < 2 ^ 10 from ?_) (by decide)) (by decide)⟩
  · have e : (0 : Rat) = Rat.divInt 0 5 := by rw [Rat.zero_divInt]
    rw [e, Rat.divInt_eq_divInt_iff (by decide) (by decide)] at z
    rcases hg with rfl | rfl <;> omega
  · rcases hg with rfl | rfl <;> omega
theorem set_rise {k : Nat} {s t : Rat × Rat} (h : SetW k s) (h2 : SetW (k + 1) t) : s.1 < t.1 := by
  obtain ⟨r, hr, e1, _⟩ := h
  obtain ⟨r2, hr2, e3, _⟩ := h2
  rw [e1, e3]
  exact divInt_lt (by decide) (by decide) (by omega)
def SetsW (ss : List (Rat × Rat)) : Prop := ∀ k s, ss[k]? = some s → SetW k s
theorem sets_rise {ss : List (Rat × Rat)} (h : SetsW ss) : ((ss.zip (ss.drop 1)).map fun p => decide (p.1.1 < p.2.1)).all id = true := by
  rw [List.all_map, List.all_eq_true]
  intro p hp
  obtain ⟨k, hk⟩ := List.mem_iff_getElem?.mp hp
  rw [List.getElem?_zip_eq_some] at hk
  obtain ⟨h1, h2⟩ := hk
  rw [List.getElem?_drop, Nat.add_comm] at h2
  exact decide_eq_true (set_rise (h _ _ h1) (h _ _ h2))
def W_dial : WOne := fun d => ∃ c, d = dClk c ∧ ClkOk c
theorem sc_law_dial : FnScope ["_law_pen", "_law_found", "_law_k"] ["_law_pen"] (defScope s_law_dial) := ⟨rfl, rfl, rfl, by decide +kernel, rfl, by decide +kernel, by decide +kernel⟩
section
variable {P : Program} {w : World} {K : PySem.W.Frag} {mg : Str → Option Value} {base : Heap}
theorem fn_law_dial (T : Tx K mg) : Fn P w K mg base 4 "_law_dial" ["_law_pen"] [] (spPen K (fun ds => ds = []) (fun _ => W_dial)) := by
  refine Fn.mk_ T m_law_dial rfl g_law_dial (fun _ _ _ _ _ _ us hl => match us, hl with | [_], _ => rfl) fun fd F => fn_bodyPn F sc_law_dial fun cdv A outer s H E hr p => ?_
  refine sns_cons (sn_asgL 1 sc_law_dial.nd (fun _ _ _ => pl_lst pds_nil) fun l => ?_)
  refine sns_cons (sn_for (is := [2]) (fun i M G D => M = [l] ∧ (∃ s, G = [.ref p, .ref l, s]) ∧ ∃ ss : List (Rat × Rat), D = [(l, ss.map dSet)] ∧ ss.length = i ∧ SetsW ss) (pp_draw T 0 5 hr (by decide) (by decide) (by decide)) T.range (by decide) ?_ (fun i M G D hi hP => ?_) (fun i M G D hi hP => ?_))
  · exact ⟨rfl, ⟨_, rfl⟩, [], rfl, rfl, fun k s h => by simp at h⟩
  · obtain ⟨rfl, ⟨sl, rfl⟩, ss, rfl, hl, hS⟩ := hP
    refine ⟨[.ref p, .ref l, .dat (.int i)], (gd_name 2 sc_law_dial.nd), ?_⟩
    refine sns_cons (sn_app (D1 := []) (W := fun d => ∃ s, d = dSet s ∧ SetW i s) 1 (pp_imp (pp_tup (pps_cons (pp_call (W := fun d => ∃ q r, d = dP q ∧ (r = 0 ∨ r = 1) ∧ q = Rat.divInt (2 * i + r) 3) (fn_part_of T) hr (by decide) (pps_cons (pp_bin0 (W := fun d => ∃ r : Int, d = .int (2 * i + r) ∧ (r = 0 ∨ r = 1)) op_add (pp_pd fun _ _ _ => pd_mul pd_int (pd_var 2) ?_) (pp_draw T 0 2 hr (by decide) (by decide) (by decide)) ?_) (pps_cons (pp_pd fun _ _ _ => pd_int) pps_nil)) ?_) (pps_cons (pp_call (W := fun d => ∃ q g, d = dP q ∧ (g = 1 ∨ g = -1) ∧ q = Rat.divInt (g * (1 + i)) 5) (fn_part_of T) hr (by decide) (pps_cons (pp_bin (W := fun d => ∃ g : Int, d = .int (g * (1 + i)) ∧ (g = 1 ∨ g = -1)) op_mulW (pp_ixL (W := fun d => ∃ g : Int, d = .int g ∧ (g = 1 ∨ g = -1)) (fun _ _ _ => pl_lst (pds_cons pd_int (pds_cons (pd_neg pd_int) pds_nil))) (pp_draw T 0 2 hr (by decide) (by decide) (by decide)) ?_) (pp_pd fun _ _ _ => pd_add pd_int (pd_var 2)) ?_) (pps_cons (pp_pd fun _ _ _ => pd_int) pps_nil)) ?_) pps_nil)) ?_) ?_) ?_ fun d hd => ?_)
    · exact sm_mul (m := 40) (by decide) (show (i : Int).natAbs < 2 ^ 40 by omega)
    · rintro _ _ rfl ⟨r, rfl, r0, r1⟩
      exact ⟨_, _, rfl, rfl, r, rfl, by omega⟩
    · rintro _ ⟨_, _, rfl, ⟨r, rfl, hr⟩, _, _, rfl, rfl, rfl⟩
      exact ⟨_, .mk (by decide) (nat9 (by decide)), _, r, rfl, hr, rfl⟩
    · intro j j0 j1
      have : j = 0 ∨ j = 1 := by omega
      rcases this with rfl | rfl
      · exact ⟨.int 1, rfl, 1, rfl, .inl rfl⟩
      · exact ⟨.int (-1), rfl, -1, rfl, .inr rfl⟩
    · rintro _ _ ⟨g, rfl, hg⟩ rfl
      exact ⟨_, _, rfl, rfl, sm_mul (m := 40) (by rcases hg with rfl | rfl <;> decide) (show (1 + (i : Int)).natAbs < 2 ^ 40 by omega), g, rfl, hg⟩
    · rintro _ ⟨_, _, rfl, ⟨g, rfl, hg⟩, _, _, rfl, rfl, rfl⟩
      exact ⟨_, .mk (by decide) (nat9 (by decide)), _, g, rfl, hg, rfl⟩
    · rintro _ ⟨_, _, rfl, _, _, _, rfl, _, rfl⟩
      exact Nat.le_of_ble_eq_true rfl
    · rintro _ ⟨_, rfl, _, _, rfl, ⟨q, r, rfl, hr, rfl⟩, _, _, rfl, ⟨q2, g, rfl, hg, rfl⟩, rfl⟩
      exact ⟨(_, _), rfl, r, hr, rfl, g, hg, rfl⟩
    · rw [List.length_map]; omega
    · obtain ⟨s, rfl, hs⟩ := hd
      refine sns_nil ⟨rfl, ⟨_, rfl⟩, ss ++ [s], ?_, ?_, ?_⟩
      · rw [List.map_append]; rfl
      · rw [List.length_append, hl]; rfl
      · intro k u hk
        rw [List.getElem?_append] at hk
        split at hk
        · exact hS _ _ hk
        · have : k = i := by
            have h1 := List.getElem?_eq_some_iff.mp hk
            obtain ⟨h2, _⟩ := h1
            simp at h2
            omega
          subst this
          rw [hl, Nat.sub_self] at hk
          cases hk
          exact hs
  · obtain ⟨rfl, ⟨sl, rfl⟩, ss, rfl, hl, hS⟩ := hP
    refine sns_cons (sn_ret (W := fun d => ∃ q : Rat, ∃ r s : Int, d = .tuple [dP q, .tuple (ss.map dSet)] ∧ q = Rat.divInt r s ∧ -12 ≤ r ∧ r ≤ 12 ∧ 1 ≤ s ∧ s ≤ 5) (pp_imp (pp_tup (pps_cons (pp_call (W := fun d => ∃ q : Rat, ∃ r s : Int, d = dP q ∧ q = Rat.divInt r s ∧ -12 ≤ r ∧ r ≤ 12 ∧ 1 ≤ s ∧ s ≤ 5) (fn_part_of T) hr (by decide) (pps_cons (pp_bin0 (W := WI (-12) 12) op_sub (pp_draw T 0 25 hr (by decide) (by decide) (by decide)) (pp_pd fun _ _ _ => pd_int) ?_) (pps_cons (pp_bin0 (W := WI 1 5) op_add (pp_pd fun _ _ _ => pd_int) (pp_draw T 0 5 hr (by decide) (by decide) (by decide)) ?_) pps_nil)) ?_) (pps_cons (pp_pd fun _ _ _ => pd_tupL (pr_var 1 (hp := List.mem_cons_of_mem _ (List.mem_cons_self ..))) T.tuple) pps_nil)) ?_) ?_) fun d h => ?_)
    · rintro _ _ ⟨r, rfl, r0, r1⟩ rfl
      exact ⟨_, _, rfl, rfl, _, rfl, by omega, by omega⟩
    · rintro _ _ rfl ⟨r, rfl, r0, r1⟩
      exact ⟨_, _, rfl, rfl, _, rfl, by omega, by omega⟩
    · rintro _ ⟨_, _, rfl, ⟨r, rfl, r0, r1⟩, _, _, rfl, ⟨s, rfl, s0, s1⟩, rfl⟩
      exact ⟨_, .mk (by omega) (nat9 (by omega)), _, r, s, rfl, rfl, r0, r1, s0, s1⟩
    · rintro _ ⟨_, _, rfl, _, _, _, rfl, _, rfl⟩
      exact Nat.le_of_ble_eq_true rfl
    · rintro _ ⟨_, rfl, _, _, rfl, ⟨q, r, s, rfl, hq⟩, _, _, rfl, rfl, rfl⟩
      exact ⟨q, r, s, rfl, hq⟩
    · obtain ⟨q, r, s, rfl, rfl, r0, r1, s0, s1⟩ := h
      refine ⟨⟨_, ss⟩, rfl, ⟨?_, ?_, sk_divInt (by omega) (Nat.lt_of_lt_of_le (show _ < 2 ^ 10 by omega) (by decide)) (Nat.lt_of_lt_of_le (show _ < 2 ^ 10 by omega) (by decide)), (by show ss.length ≤ 6; omega), fun u hu => ?_, sets_rise hS⟩⟩
      · show -12 ≤ Rat.divInt r s
        have e : (-12 : Rat) = Rat.divInt (-12) 1 := rfl
        rw [e]
        exact divInt_le (by decide) (by omega) (by omega)
      · show Rat.divInt r s ≤ 12
        have e : (12 : Rat) = Rat.divInt 12 1 := rfl
        rw [e]
        exact divInt_le (by omega) (by decide) (by omega)
      · obtain ⟨k, hk⟩ := List.mem_iff_getElem?.mp hu
        have : k < ss.length := (List.getElem?_eq_some_iff.mp hk).1
        exact set_ok (hS _ _ hk) (by omega)
end
end Gk
end

section
set_option linter.all false
set_option maxRecDepth 100000
namespace Gk
open PySem PySem.Spec PyProof.Rows L2 Evl
section
variable {X : Cx} {p : Addr} {M : List Addr} {G : List Slot} {D D1 D2 : Lists} {e a b c : Expr} {W Wa Wb Wc Rd : WOne} {N : NP} {d : PyData} {ds : List PyData} {pos p' pn : Pos} {x y : Str}
theorem PenE.other {K : PySem.W.Frag} {t : L2.St} {H : Hp} {l : Addr} {vs ws : List V} (E : PenE K p G D t H) (n : l ≠ p) (n2 : ∀ z ∈ D, z.1 ≠ l) (h : H l = some (.lst vs)) : PenE K p G D t (L2.upd H l (.lst ws)) := by
  obtain ⟨x, y, c, hc, E⟩ := E
  have tp := TP.upd (K := K) (ys := ws) h
  refine ⟨x, y, c, hc, E.slots.mono tp, E.nd, fun z hz => ?_⟩
  obtain ⟨us, q1, q2⟩ := E.lists z hz
  have hne : z.1 ≠ l := by
    rcases List.mem_cons.mp hz with rfl | hz
    · exact fun e => n e.symm
    · exact n2 z hz
  exact ⟨us, by rw [L2.upd_ne hne]; exact q1, q2.mono tp⟩
/-- a new list of what was drawn -/
def tPL (K : PySem.W.Frag) (p : Addr) (G : List Slot) (D : Lists) (W : WSet) : TE := fun t H Q => PenE K p G D t H ∧ ∀ l vs H' ds, H l = none → Stp [p] H H' → PenE K p G D t H' → W ds → H' l = some (.lst vs) → Fts K H' ds vs → Q (.ref l) H'
/-- [elt for k in range(a)] -/
theorem pl_lcP {n : Int} {tg elt : Expr} {scope : Scope} {own : List (Str × Nat)} {is : List Nat} {G2 : Int → List Slot} (Wm : Int → Prop) (h : PP X p G D a (fun d => ∃ m, d = .int m ∧ 0 ≤ m ∧ m ≤ n ∧ Wm m)) (hm : X.mg "range" = none) (hn : n < 1000)
    (hg1 : ∀ (i : Nat) s H C cl fp, PGd (X.blk s H scope (compEnvC scope cl C X.env) fp) is (wipeG G (own.map (·.2))) tg (.int i) (G2 i)) (he : ∀ (i : Nat) s H C cl fp, PP (X.blk s H scope (compEnvC scope cl C X.env) fp) p (G2 i) D elt W)
    (his : ∀ i ∈ is, i ∈ own.map (·.2)) (hnd : X.N.Nodup) (ok : BlkOk X.N X.env.scope scope own) (hg : Gl X "range" := by rfl) (hse : starEach [a] X.env = [(false, eval a X.env)] := by rfl)
    (hc : X.calm = true := by rfl) (hf : ∀ x, foldedSetIterable (.Call (.Name "range" p') [a] [] pn) X.env x = pure x := by intro _; rfl) :
    PE X (.ListComp elt [⟨tg, .Call (.Name "range" p') [a] [] pn, [], 0⟩] scope pos) (tPL X.K p G D (fun ds => (∃ m : Int, (ds.length : Int) = m ∧ m ≤ n ∧ Wm m) ∧ ∀ d ∈ ds, W d)) := by
  let g : TG := fun v t H k => ∃ i : Nat, tG X.K is (wipeG G (own.map (·.2))) (.int i) (G2 i) v t H k
  let tt : TT := fun t H Q => Q true H
  let te : TE := fun t H Q => ∃ i : Nat, tPn X.K p (G2 i) D W t H Q
  have hg' : ∀ s H C cl fp, PG (X.blk s H scope (compEnvC scope cl C X.env) fp) tg g := fun s H C cl fp => ⟨fun p s' t h9 v u Q I r ⟨i, q⟩ => (hg1 i s H C cl fp).run p s' t h9 v u Q I r q⟩
  have ht' : ∀ s H C cl fp, PTs (X.blk s H scope (compEnvC scope cl C X.env) fp) [] tt := fun s H C cl fp => pts_nil
  have he' : ∀ s H C cl fp, PE (X.blk s H scope (compEnvC scope cl C X.env) fp) elt te := fun s H C cl fp => ⟨fun p s' t h9 Q I ⟨i, q⟩ => (he i s H C cl fp).run p s' t h9 Q I q⟩
  refine PE.by_ (pe_lc hc hnd (pi_range1 hg hm (pa_cons h pa_nil hse) hse) ok hg' ht' he' hf) fun t H Q ⟨E, q⟩ => ⟨E, fun v H1 d s1 E1 ⟨m, ed, hm0, hm1, hw⟩ f => ?_⟩
  subst ed
  have ev : v = .int m := f
  subst ev
  refine ⟨m, rfl, by omega, by omega, fun Dl nD => ?_⟩
  have nDp : Dl ≠ p := (E1.ne nD).1
  have n0 : H Dl = none := by
    cases hz : H Dl with
    | none => rfl
    | some o =>
      have := s1 Dl o hz (fun m => nDp (List.mem_singleton.mp m))
      rw [nD] at this
      cases this
  let I : Nat → Hp → Prop := fun i H' => i ≤ m.toNat ∧ Stp [p] H H' ∧ PenE X.K p G D t H' ∧ ∃ acc ds, H' Dl = some (.lst acc) ∧ Fts X.K H' ds acc ∧ ds.length = i ∧ ∀ d ∈ ds, W d
  refine ⟨fun i k H' => k = m.toNat - i ∧ I i H', ⟨m.toNat, rfl, Nat.zero_le _, s1.trans (Stp.ex (Ex.new nD)), E1.mono (Ex.new nD), [], [], upd_same, rfl, rfl, fun _ z => nomatch z⟩, ?_⟩
  rintro i k H' ⟨rfl, hle, x1, E', acc, ds, hD, fa, hl, hW⟩
  by_cases hlt : i < m.toNat
  · refine .inr ⟨hlt, I (i + 1), fun H2 z => ⟨_, by have := z.1; omega, rfl, z⟩, fun v H2 y => ?_⟩
    obtain ⟨rfl, rfl⟩ := y
    refine ⟨i, E'.slots.wiped _, (by show V.int (0 + (i : Int)) = V.int i; rw [Int.zero_add]), fun t3 S3 wz => ⟨?_, ?_⟩⟩
    · rw [wz _ his]
      exact lc_of.wipe_twice t _
    · refine iteT ⟨i, E'.withS S3, fun u H4 d4 s4 E4 w4 f4 => ?_⟩
      have hD4 : H4 Dl = some (.lst acc) := s4 _ _ hD (fun m => nDp (List.mem_singleton.mp m))
      have fa4 : Fts X.K H4 ds acc := fa.monoT (E'.sq s4)
      have la : acc.length ≤ 1000 := by rw [fa4.len]; omega
      have tp := TP.upd (K := X.K) (ys := acc ++ [u]) hD4
      refine ⟨acc, hD4, sz_lt (by omega), hlt, (x1.trans s4).fresh n0, ?_, _, ds ++ [d4], upd_same, (fa4.app (Fts.one f4)).mono tp, by rw [List.length_append, hl]; rfl, fun d hd => ?_⟩
      · obtain ⟨a4, b4, c4, hc4, hl4⟩ := E4.lst
        exact (E'.after s4 hc4 hl4).other nDp (E1.ne nD).2 hD4
      · rcases List.mem_append.mp hd with hd | hd
        · exact hW d hd
        · rw [List.mem_singleton.mp hd]; exact w4
  · have ei : i = m.toNat := by omega
    subst ei
    exact .inl ⟨Nat.le_refl _, q Dl acc H' ds n0 x1 E' ⟨⟨m, by omega, hm1, hw⟩, hW⟩ hD fa⟩
theorem pp_tupP {Ws : WSet} (ha : PE X a (tPL X.K p G D Ws)) (hm : X.mg "tuple" = none) (hg : Gl X "tuple" := by rfl) (hs : starEach [a] X.env = (false, eval a X.env) :: starEach [] X.env := by rfl) : PP X p G D (.Call (.Name "tuple" pn) [a] [] pos) (fun d => ∃ ds, d = .tuple ds ∧ Ws ds) :=
  PE.by_ (pe_callTy call_tuple_of hg hm (by decide +kernel) (pa_cons ha pa_nil hs) (by decide) (by decide) hs (by rfl)) fun t H Q ⟨E, r⟩ => ⟨E, fun l vs H1 ds n s1 E1 w hl f =>
    ⟨l, vs, rfl, .inl ⟨SqL.of hl, fun z hz => r _ _ (.tuple ds) (s1.trans (Stp.ex (Ex.new hz))) (E1.mono (Ex.new hz)) ⟨ds, rfl, w⟩ (ft_tup hz f)⟩⟩⟩
end
end Gk
end

section
set_option linter.all false
set_option maxRecDepth 100000
namespace Gk
open PySem PySem.Spec PyProof.Rows L2 Evl
/-! ### the script -/
def spCell (K : PySem.W.Frag) : Sp := fun vs H Q _ => ∃ (a : Addr) (ns : List Int), vs = [.ref a, .int 0] ∧ SqL K H a (ns.map V.int) ∧ ∀ H', Ex H H' → Q (.int (ns.getD 0 0)) H'
theorem sc_law_cell_at : FnScope ["_law_script", "_law_k"] ["_law_script", "_law_k"] (defScope s_law_cell_at) := ⟨rfl, rfl, rfl, by decide +kernel, rfl, by decide +kernel, by decide +kernel⟩
section
variable {X : Cx} {G : List Slot} {D : Lists} {a : Addr} {ns : List Int} {x : Str} {pn pos p' : Pos} {i j : Int} {e b : Expr}
/-- what reads the script: ra rests on it -/
def tSq (K : PySem.W.Frag) (G : List Slot) (D : Lists) (a : Addr) (ns : List Int) (v : V) : TE := fun t H Q => EnvE K G D t H ∧ SqL K H a (ns.map V.int) ∧ ∀ H', Ex H H' → Q v H'
theorem pe_lenS (h : PE X e (tSq X.K G D a ns (.ref a))) (hm : X.mg "len" = none) (hg : Gl X "len" := by rfl) (hs : starEach [e] X.env = (false, eval e X.env) :: starEach [] X.env := by rfl) : PE X (.Call (.Name "len" pn) [e] [] pos) (tSq X.K G D a ns (.int ns.length)) :=
  PE.by_ (pe_callB call_len_seq hg hm PySem.boot_len (pa_cons h pa_nil hs) (by decide) (by decide) hs (by rfl)) fun t H Q ⟨E, s, r⟩ => ⟨E, s, fun H1 e1 => ⟨a, _, rfl, .inl (ex_l e1 s), by
    rw [List.length_map]
    exact r H1 e1⟩⟩
theorem pe_script (i : Nat) (h : G[i]? = some (.ref a) := by rfl) (hN : X.N[i]? = some x := by rfl) (hv : Vis X.env.scope x := by first | exact Or.inl rfl | exact Or.inr (Or.inl rfl) | exact Or.inr (Or.inr rfl)) (hd : (x == ("__debug__" : Str)) = false := by decide) (hcd : (x == ("__classdict__" : Str)) = false := by decide) : PE X (.Name x pn) (tSq X.K G D a ns (.ref a)) :=
  PE.by_ (pe_var hN hv hd hcd) fun t H Q ⟨E, s, r⟩ => ⟨_, E.rf h, r H (Ex.refl H)⟩
end
section
variable {P : Program} {w : World} {K : PySem.W.Frag} {mg : Str → Option Value} {base : Heap}
theorem fn_law_cell_at (T : Tx K mg) : Fn P w K mg base 1 "_law_cell_at" ["_law_script", "_law_k"] [] (spCell K) := by
  refine Fn.mk_ T m_law_cell_at rfl g_law_cell_at (fun _ _ _ _ _ _ us hl => match us, hl with | [_, _], _ => rfl) fun fd F => FunD.ok F sc_law_cell_at (fun vs H Q E h => ?_) (fun cdv A outer s H vs Q E hr h => ?_)
  · obtain ⟨a, ns, rfl, _⟩ := h
    rfl
  · obtain ⟨a, ns, rfl, hq, q⟩ := h
    have E0 : EnvE K [.ref a, .dat (.int 0)] [] (L2.start ["_law_script", "_law_k"] [.ref a, .int 0]) H := ⟨⟨_, _, rfl, rfl, _, _, rfl, ⟨_, rfl, rfl⟩, True.intro⟩, List.nodup_nil, fun p hp => (nomatch hp)⟩
    have hat : ∀ (hl : 0 < ns.length), atI (ns.map V.int) 0 = some (V.int (ns.getD 0 0)) := fun hl => by
      cases ns with
      | nil => exact absurd hl (by decide)
      | cons n ns =>
        have e : ixN ((n :: ns).map V.int).length 0 = some 0 := by
          unfold ixN
          simp
        unfold atI
        rw [e] <;> rfl
    refine ⟨_, PSs.nox (X := cxOf CX0 P w K mg base ["_law_script", "_law_k"] d_law_cell_at.qual (defScope s_law_cell_at) d_law_cell_at.f cdv A outer s H E) (pss_cons (ps_if (pt_cmpR op_lt (pd_var (G := [.ref a, .dat (.int 0)]) (D := []) 1) (pe_lenS (G := [.ref a, .dat (.int 0)]) (D := []) (a := a) (ns := ns) (pe_script 0) T.len) rfl) (pss_one (ps_ret (pe_ix ix_list (pe_script (G := [.ref a, .dat (.int 0)]) (D := []) (ns := ns) (a := a) 0) (pd_var (G := [.ref a, .dat (.int 0)]) (D := []) 1) (fun _ _ => rfl)))) pss_nil) (pss_one (ps_ret pe_int))), ?_⟩
    refine ⟨E0, fun v H1 e1 f1 => ⟨E0.mono e1, ex_l e1 hq, fun H2 e2 => ?_⟩⟩
    have ev : v = .int 0 := f1
    subst ev
    refine ⟨0, ns.length, rfl, rfl, _, rfl, ?_⟩
    have e12 := e1.trans e2
    by_cases hl : 0 < ns.length
    · have ed : decide ((0 : Int) < (ns.length : Int)) = true := decide_eq_true (by omega)
      rw [ed]
      refine iteT ⟨E0.mono e12, ex_l e12 hq, fun H3 e3 => ⟨E0.mono (e12.trans e3), fun v H4 e4 f4 => ?_⟩⟩
      have ev : v = .int 0 := f4
      subst ev
      exact ⟨a, _, 0, _, rfl, rfl, ex_l ((e12.trans e3).trans e4) hq, hat hl, q H4 ((e12.trans e3).trans e4)⟩
    · have ed : decide ((0 : Int) < (ns.length : Int)) = false := decide_eq_false (by omega)
      rw [ed]
      have en : ns = [] := List.length_eq_zero_iff.mp (by omega)
      subst en
      exact iteF (q H2 e12)
def cells (ns : List Int) : List Int := ns.getD 0 0 :: (ns.drop 1).take 1
theorem cut_cells (ns : List Int) : [V.int (ns.getD 0 0)] ++ cutV (ns.map V.int) (some 1) (some 2) = (cells ns).map V.int := by
  have h1 : HT.sIx (ns.map V.int).length 0 (some 1) = min 1 ns.length := by rw [show (1 : Int) = ((1 : Nat) : Int) from rfl, HT.sIx_nat, List.length_map]
  have h2 : HT.sIx (ns.map V.int).length (ns.map V.int).length (some 2) = min 2 ns.length := by rw [show (2 : Int) = ((2 : Nat) : Int) from rfl, HT.sIx_nat, List.length_map]
  unfold cutV
  rw [h1, h2]
  match ns with
  | [] => rfl
  | [_] => rfl
  | a :: b :: l =>
    have e1 : min 1 (a :: b :: l).length = 1 := by simp
    have e2 : min 2 (a :: b :: l).length = 2 := by simp
    rw [e1, e2]
    rfl
theorem pe_cells {X : Cx} {G : List Slot} {D : Lists} {a : Addr} {ns : List Int} {x : Str} {n i : Nat} {p1 p2 p3 p4 p5 p6 p7 p8 p9 p10 pos : Pos} {j j2 j3} (T : Tx X.K X.mg) (hr : Room n X.A) (hz : ns.length ≤ 1000) (hi : i = 0) (h : G[i]? = some (.ref a)) (hN : X.N[i]? = some x) (hv : Vis X.env.scope x) (hd : (x == ("__debug__" : Str)) = false) (hcd : (x == ("__classdict__" : Str)) = false) (hk : 1 ≤ n)
    (hg : Gl X "_law_cell_at") (hs1 : starEach [.Name x p2, .Constant (.int 0) j p3] X.env = (false, eval (.Name x p2) X.env) :: starEach [.Constant (.int 0) j p3] X.env) (hs2 : starEach [.Constant (.int 0) j p3] X.env = (false, eval (.Constant (.int 0) j p3) X.env) :: starEach [] X.env) (hpl : (backTo p4 (starEach [.Constant (.int 0) j p3] X.env)).any (·.1) = false)
    (hs3 : starEach [.Call (.Name "_law_cell_at" p1) [.Name x p2, .Constant (.int 0) j p3] [] p4] X.env = (false, eval (.Call (.Name "_law_cell_at" p1) [.Name x p2, .Constant (.int 0) j p3] [] p4) X.env) :: starEach [] X.env) :
    PE X (.BinOp (.List [.Call (.Name "_law_cell_at" p1) [.Name x p2, .Constant (.int 0) j p3] [] p4] p5) .Add (.Subscript (.Name x p6) (.Slice (some (.Constant (.int 1) j2 p7)) (some (.Constant (.int 2) j3 p8)) none p9) p10) pos)
      (fun t H Q => EnvE X.K G D t H ∧ SqL X.K H a (ns.map V.int) ∧ ∀ l H', H l = none → Ex H H' → H' l = some (.lst ((cells ns).map V.int)) → Q (.ref l) H') := by
  refine PE.by_ (pe_op op_cat (pe_lst (pa_cons (pe_fn (fn_law_cell_at T) hr hk (pa_cons (pe_script (G := G) (D := D) (a := a) (ns := ns) i h hN hv hd hcd) (pa_cons pe_int pa_nil hs2) hs1) hg (by decide) hs1 hpl) pa_nil hs3)) (pe_slice sl_list (pe_script (G := G) (D := D) (a := a) (ns := ns) i h hN hv hd hcd) (po_some pe_int) (po_some pe_int))) fun t H Q ⟨E, hq, q⟩ => ?_
  refine ⟨E, hq, fun H1 e1 => ?_⟩
  refine ⟨a, ns, rfl, ex_l e1 hq, fun H2 e2 => ?_⟩
  have e12 := e1.trans e2
  refine ⟨sz_of (Nat.le_of_ble_eq_true rfl), fun l hl => ⟨E.mono (e12.trans (Ex.new hl)), ex_l (e12.trans (Ex.new hl)) hq, fun H3 e3 => ?_⟩⟩
  have e123 := (e12.trans (Ex.new hl)).trans e3
  refine ⟨1, rfl, 2, rfl, a, _, rfl, ex_l e123 hq, fun z hz2 => ?_⟩
  have hb : (cutV (ns.map V.int) (some 1) (some 2)).length ≤ 1000 := Nat.le_trans (cutV_length _ _ _) (by rw [List.length_map]; exact hz)
  have e4 : Ex H (upd H3 z (.lst (cutV (ns.map V.int) (some 1) (some 2)))) := e123.trans (Ex.new hz2)
  refine ⟨l, z, [V.int (ns.getD 0 0)], _, rfl, rfl, Ex.new hz2 _ _ (e3 _ _ upd_same), upd_same, sz_of (by rw [List.length_singleton]; omega), fun r hr2 => ?_⟩
  rw [cut_cells]
  exact q r _ (fresh_back e4 hr2) (e4.trans (Ex.new hr2)) upd_same
end
end Gk
end

section
set_option linter.all false
set_option maxRecDepth 100000
set_option maxHeartbeats 4000000
namespace Gk
open PySem PySem.Spec PyProof.Rows L2 Evl
open PySem.W PySem.Calls PySem.HandSPX
/-! ## an own exception is made with keywords -/
section
variable {M : Model} {A : Around} {E : Value → Shared → Prop} {h : Heap} {g : Array GenState} {d : Drawn} {t : Nat} {os : OsState}
variable {nm q : Str} {C N : Addr} {bs bm bmB : List Value} {hdct : Bool} {sn : List Str} {sub : List Value} {ab : Bool} {col : Option Bool} {dd : Option Addr} {k0 k1 k2 k3 k5 : Option Value} {B newId initId : String} {kw : List (Str × Value)} {rest : List Value}
theorem new_kw_check (F : ExcBaseFacts B newId initId bmB) (hT : ∀ X : String, bm.contains (.type X) = bmB.contains (.type X)) {Q : Unit → Shared → Prop}
    (hC : h.get? C = some (excClassObj nm q C N bs bm hdct sn sub ab col dd k0 k1 k2 k3 k5 newId)) (hq : Q () ⟨h, g, d, t, os⟩) : wpAny M A (checkBuiltinCall newId ⟨.ref C :: rest, kw⟩) Q E ⟨h, g, d, t, os⟩ := by
  have star := F.noStar
  have cont : (Value.ref C :: bm).contains (.type B) = true := by rw [List.contains_cons, hT, F.hasB, Bool.or_true]
  simp only [F.newKind, F.newSplit, F.newRow, checkBuiltinCall]
  repeat (first | simp only [Bool.false_eq_true, bne_self_eq_false, if_false] | refine wpAny_staticBase_exc hC ?_ | refine wpAny_madeBy_exc hC ?_ | refine wpAny_loadPart_at hC ?_ | (refine wpAny_isSubtype_exc hC ?_; rw [cont]) | wp_step)
  exact hq
end
section
variable {prog : Program} {w : World} {A : Around} {E : Value → Shared → Prop} {R : Result → Shared → Prop} {h : Heap} {g : Array GenState} {d : Drawn} {t : Nat} {os : OsState}
variable {nm q : Str} {C N : Addr} {bs bm bmB : List Value} {hdct : Bool} {sn : List Str} {sub : List Value} {ab : Bool} {col : Option Bool} {dd : Option Addr} {k0 k1 k2 k3 k5 : Option Value} {B newId initId : String} {kw : List (Str × Value)} {rest : List Value}
theorem new_kw (F : ExcBaseFacts B newId initId bmB) (hT : ∀ X : String, bm.contains (.type X) = bmB.contains (.type X))
    (hC : h.get? C = some (excClassObj nm q C N bs bm hdct sn sub ab col dd k0 k1 k2 k3 k5 newId)) (hrest : rest.length ≤ sizeLine)
    (hq : R (.ok (.ret (.ref (h.objs.size + 1)))) ⟨(h.push (W.kdv_tup rest)).push (excO C h.objs.size), g, d, t, os⟩) : codeAny (model prog w) A (.builtin newId ⟨.ref C :: rest, kw⟩) R ⟨h, g, d, t, os⟩ := by
  have ends := F.ends
  have cB : (Value.ref C :: bm).contains (.type B) = true := by rw [List.contains_cons, hT, F.hasB, Bool.or_true]
  have cA : (Value.ref C :: bm).contains (.type "AttributeError") = false := by
    rw [List.contains_cons, hT, F.noAttr] <;> rfl
  have cN : (Value.ref C :: bm).contains (.type "NameError") = false := by
    rw [List.contains_cons, hT, F.noName] <;> rfl
  refine codeAny_builtinAt F.entry ?_
  unfold Builtin.«BaseException.__new__»
  refine PySem.wpAt_bind ?_
  show PySem.wpAt _ _ _ (stack >>= _) _ _ _
  refine PySem.wpAt_bind (PySem.wpAt_stack fun p below => PySem.wpAt_of_wpAny ?_)
  wp_walk
  refine PySem.wpAt_of_wpAny ?_
  rw [F.owner]
  repeat (first | (with_reducible refine wpAny_isSubtype_exc hC ?_; first | rw [cB] | rw [cA] | rw [cN]) | with_reducible refine wpAny_madeHere_exc F.canon hC ?_ | with_reducible refine wpAny_loadPart_at hC ?_ | wp_step)
  show R _ _
  rw [Heap.size_push]
  exact hq
theorem made_kw (F : ExcBaseFacts B newId initId bmB) (hT : ∀ X : String, bm.contains (.type X) = bmB.contains (.type X)) {fI : Addr} {Q : Fin → Shared → Prop}
    (hC : h.get? C = some (excClassObj nm q C N bs bm hdct sn sub ab col dd k0 k1 k2 k3 k5 newId)) (hrest : rest.length ≤ sizeLine)
    (hi : W.Looks (model prog w) h (typeLookup (.ref C) "__init__") (some (.ref fI))) (hb : ∀ self, W.Looks (model prog w) h (bindSpecial (.ref fI) self) (.ref fI, [self]))
    (hq : codeAny (model prog w) A (.call (.ref fI) ⟨.ref (h.objs.size + 1) :: rest, kw⟩)
      (fun r s' => match r with | .ok (.ret v) => v = .none ∧ Q (.done (.ret (.ref (h.objs.size + 1)))) s' | .ok _ => False | .error e => E e s') ⟨(h.push (W.kdv_tup rest)).push (excO C h.objs.size), g, d, t, os⟩) :
    wpAny (model prog w) A (Builtin.«type.__call__» ⟨.ref C :: rest, kw⟩) Q E ⟨h, g, d, t, os⟩ := by
  repeat (first | with_reducible refine wpAny_madeBy_exc hC ?_ | with_reducible refine wpAny_loadPart_at hC ?_ | wp_step)
  refine codeAny_call_builtin_code (Code.quiet_builtin _ F.quiet) (new_kw_check F hT hC (new_kw F hT hC hrest ?_))
  show wpAny _ _ _ _ _ _
  have kk : ∀ b o, h.get? b = some o → ((h.push (W.kdv_tup rest)).push (excO C h.objs.size)).get? b = some o := fun b o e => Heap.get?_push_of_some _ (Heap.get?_push_of_some _ e)
  have hC2 := kk _ _ hC
  have at_ : ((h.push (W.kdv_tup rest)).push (excO C h.objs.size)).get? (h.objs.size + 1) = some (excO C h.objs.size) := by heap_get
  have own : (Value.ref C :: bm).contains (.ref C) = true := by simp
  have looks := hi.keeps kk
  have binds := (hb (.ref (h.objs.size + 1))).keeps kk
  unfold isInstance
  repeat (first | (with_reducible refine wpAny_isSubtype_exc hC2 ?_; rw [own]) | with_reducible refine wpAny_loadPart_at at_ ?_ | wp_step)
  show wpAny _ _ (typeLookup (.ref C) _) _ _ _
  refine looks.at (wpAny_holding (wpAny_bind (binds.at (wpAny_bind (wpAny_call (codeAny_mono hq fun r s' z => ?_))))))
  rcases r with e | (v | _ | _ | _) <;> first | exact z | exact z.elim | skip
  obtain ⟨rfl, z⟩ := z
  first
    | exact wpAny_pure (wpAny_pure z)
    | (wp_walk; exact z)
theorem call_kw (F : ExcBaseFacts B newId initId bmB) (hT : ∀ X : String, bm.contains (.type X) = bmB.contains (.type X)) {fI : Addr}
    (hC : h.get? C = some (excClassObj nm q C N bs bm hdct sn sub ab col dd k0 k1 k2 k3 k5 newId)) (hrest : rest.length ≤ sizeLine)
    (hi : W.Looks (model prog w) h (typeLookup (.ref C) "__init__") (some (.ref fI))) (hb : ∀ self, W.Looks (model prog w) h (bindSpecial (.ref fI) self) (.ref fI, [self]))
    (hq : codeAny (model prog w) (A.under (.builtin "type.__call__" ⟨.ref C :: rest, kw⟩)) (.call (.ref fI) ⟨.ref (h.objs.size + 1) :: rest, kw⟩) (W.InitBack (h.objs.size + 1) R) ⟨(h.push (W.kdv_tup rest)).push (excO C h.objs.size), g, d, t, os⟩) :
    codeAny (model prog w) A (.call (.ref C) ⟨rest, kw⟩) R ⟨h, g, d, t, os⟩ := by
  have look := tc_lookup
  have bind := tc_bind (.ref C)
  have ty : (⟨h, g, d, t, os⟩ : Shared).TypeIs (.ref C) "type" := ⟨_, hC, rfl⟩
  refine codeAny_of_tree ?_
  show wpAny _ _ (callAny (.ref C) _) _ _ _
  repeat (any_goals (first | with_reducible refine wpAny_loadPart_at hC ?_ | assumption | wp_step))
  refine ⟨rfl, ?_⟩
  refine codeAny_call_builtin_at (Code.quiet_builtin _ (by decide +kernel)) entry_typeCall (wpAny_check_type_call_sub hC (made_kw F hT hC hrest hi hb (codeAny_mono hq fun r s' z => ?_)))
  rcases r with e | (v | _ | _ | _) <;> exact z
end
/-- C(k = v, ..), C's own __init__ keeping sp: a new exception, kept -/
def tMkX (C : Addr) (m : Nat) (sp : Sp) (gV : List V → List V → List V) (tk : TA) : TE := fun t H Q => tk t H fun zs H1 => zs.length = m ∧ ∀ a, H1 a = none → sp (gV [.ref a] zs) (L2.upd H1 a (exo a C none)) (fun v H2 => v = .non ∧ Q (.ref a) H2) E0
section
variable {X : Cx} {CX : CXT} {k : Nat} {f C : Addr} {fd : FuncData} {ps ks : List Str} {sp : Sp} {x : Str} {p pos : Pos} {kws : List Keyword} {tk : TA} {g : List Value → List Value → List Value} {gV : List V → List V → List V}
theorem pe_mkX (T : OexC X.K C) (iC : PySem.W.findIn X.K (.ref C) "__init__" = some (some (.ref f))) (tI : PySem.W.typeIn X.K (.ref f) = some (.type "function")) (F1 : FnOk X.prog X.w X.K X.mg X.base CX k f fd ps sp) (hr : Room (k + 1) X.A) (hb : KBn X.K fd ps 1 ks g gV) (hx : Passes CX X E0) (hkw : PK X kws tk)
    (hm : X.mg x = some (.ref C)) (hg : Gl X x := by rfl) (hall : (backToKw pos (keywordEach kws X.env)).all (·.1.isSome) = true := by rfl) (hks : (backToKw pos (keywordEach kws X.env)).filterMap (·.1) = ks := by rfl) (hdb : (x == ("__debug__" : Str)) = false := by decide)
    (hpl : ((backTo pos (starEach [] X.env)).any (·.1) || (backToKw pos (keywordEach kws X.env)).any (·.1.isNone)) = false := by rfl) : PE X (.Call (.Name x p) [] kws pos) (tMkX C ks.length sp gV tk) := by
  refine ⟨fun pins s t H Q I h => ?_⟩
  obtain ⟨nm, q, N, bs, bm, sn, sub, ab, col, dd, k0, k1, k2, k3, k5, hC, hbm⟩ := T.cls
  refine wpAny_Call_Name_kw (ld_glob I hg hm ?_ hdb)
  refine PySem.W.callWith_KW0 (h₀ := X.base) I.ok.mod.kin T.kC hall (thn (hkw.run pos pins s t H _ I h) fun ws s1 ⟨zs, H1, I1, rz, l2, q2⟩ => ⟨I1.kIn, ?_⟩) hpl
  rw [hks]
  obtain ⟨hp, gg, dr, tt, os⟩ := s1
  have big : hp.objs.size ≤ hp.objs.size + 1 := Nat.le_succ _
  have hq := q2 (hp.objs.size + 1) (I1.hok.fresh big)
  have kk : ∀ b o, hp.get? b = some o → ((hp.push (PySem.W.kdv_tup [])).push (PySem.HandSPX.excO C hp.objs.size)).get? b = some o := fun b o e => Heap.get?_push_of_some _ (Heap.get?_push_of_some _ e)
  have at_ : ((hp.push (PySem.W.kdv_tup [])).push (PySem.HandSPX.excO C hp.objs.size)).get? (hp.objs.size + 1) = some (PySem.HandSPX.excO C hp.objs.size) := by heap_get
  have I2 : Inv X pins t (L2.upd H1 (hp.objs.size + 1) (exo (hp.objs.size + 1) C none)) ⟨(hp.push (PySem.W.kdv_tup [])).push (PySem.HandSPX.excO C hp.objs.size), gg, dr, tt, os⟩ := I1.laid (t' := tt) kk big (exo_ok at_)
  have r2 := hb.rel (vs := [V.ref (hp.objs.size + 1)]) (us := [Value.ref (hp.objs.size + 1)]) (.cons rfl .nil) rz
  refine wpAny_call (call_kw F.excBase_ValueError (fun Y => PySem.HandSPX.refsVE_contains Y bm hbm) (I1.kIn _ _ hC) (Nat.zero_le _) (PySem.W.looks_findIn I1.kIn iC) (fun self => PySem.W.bind_fn I1.kIn self tI)
    (codeAny_mono (F1.run _ X.stack _ _ ⟨[Value.ref (hp.objs.size + 1)], ks.zip ws⟩ (g [Value.ref (hp.objs.size + 1)] ws) _ _ E0 (hr.make C [] (ks.zip ws)) (I2.env0.make C [] (ks.zip ws)) (hb.to _ [Value.ref (hp.objs.size + 1)] ws I2.kIn rfl (rz.length.symm.trans l2)) r2 hq) fun r s' hq' => ?_))
  cases r with
  | error e => exact hx pins t _ _ e s' I2 hq'
  | ok fl =>
    cases fl with
    | ret u =>
      obtain ⟨v, H', I3, rv, ev, q3⟩ := I2.after hq'
      subst ev
      exact ⟨rv, V.ref (hp.objs.size + 1), H', I3, rfl, q3⟩
    | next => exact False.elim hq'
    | brk => exact False.elim hq'
    | cont => exact False.elim hq'
end
end Gk
end

section
set_option linter.all false
set_option maxRecDepth 100000
set_option maxHeartbeats 2000000
/-! zip of a list and a tuple, and the list made of it -/
namespace Gz
open PySem
open PySem.Sem (wp)
open RZ (nextOf_tuple_item nextOf_tuple_end)
section
variable {prog : Program} {w : World} {A : Around} {E : Value → Shared → Prop} {s : Shared}
/-- the first pair: the tuple that the zip keeps ready is free -/
theorem first_item {z TI TO i1 i2 l1 l2 : Addr} {m n : Nat} {xs ys : Array Value} {x y a b : Value} {Q : Value → Shared → Prop} (D : ZipApart z TI TO i1 i2 l1 l2)
    (hz : IsZip s.heap z TI TO .none) (hTI : IsPair s.heap TI (.ref i1) (.ref i2)) (hTO : IsPair s.heap TO a b)
    (h1 : s.heap.IsListIter i1 l1 m) (h2 : s.heap.IsTupleIter i2 l2 n) (hl1 : s.heap.IsList l1 xs) (hl2 : s.heap.IsTuple l2 ys) (hx : xs[m]? = some x) (hy : ys[n]? = some y)
    (hQ : ∀ g, IsZip g z TI TO (rawInt s.heap.objs.size) → g.IsListIter i1 l1 (m + 1) → g.IsTupleIter i2 l2 (n + 1) → IsPair g s.heap.objs.size x y → g.objs.size = s.heap.objs.size + 1 →
      (∀ c o, c ≠ z → c ≠ TO → c ≠ i1 → c ≠ i2 → s.heap.get? c = some o → g.get? c = some o) → Q (.ref s.heap.objs.size) { s with heap := g }) :
    wpAny (model prog w) A (Builtin.«zip.__next__» ⟨[.ref z], []⟩) (fun fin s' => ∃ v, fin = .done (.ret v) ∧ Q v s') E s := by
  show wpAny _ _ (field (.ref z) 2 >>= _) _ _ _
  refine wpAny_bind (wpAny_field hz rfl (x := .bool false) rfl ?_)
  show wpAny _ _ (field (.ref z) 3 >>= _) _ _ _
  refine wpAny_bind (wpAny_field hz rfl (x := .ref TI) rfl (wpAny_bind (wpAny_seqItems hTI rfl ?_)))
  show wpAny _ _ (Builtin.SmallTypes.ownedTupleIsFree (.ref z) >>= _) _ _ _
  refine wpAny_bind ?_
  unfold Builtin.SmallTypes.ownedTupleIsFree
  refine wpAny_bind (wpAny_field hz rfl (x := .none) rfl (wpAny_pure ?_))
  simp only [if_true]
  refine wpAny_bind (wpAny_rule (wpAny_bind (wpAny_field hz rfl (x := .ref TO) rfl (wpAny_bind (wpAny_setField_rec hz (by simp) fun g1 z1 e1 => ?_)))))
  replace z1 : IsZip g1 z TI TO .ellipsis := z1
  refine wpAny_bind ?_
  simp only [List.zipIdx_cons, List.zipIdx_nil, List.forIn_cons, List.forIn_nil]
  refine wpAny_bind (wpAny_bind (wpAny_onRaise ?_))
  show wpAny _ _ (Builtin.SmallTypes.nextOf (.ref i1) >>= _) _ _ _
  refine wpAny_bind (wpAny_nextOf_list_item (s := { s with heap := g1 }) (h1.extBut e1.extBut D.i1z) (hl1.extBut e1.extBut D.l1z) hx fun g2 p2 e2 => wpAny_pure ?_)
  have t2 : IsPair g2 TO a b := e2.extBut _ _ D.TOi1 (e1.extBut _ _ D.TOz hTO)
  refine wpAny_bind (wpAny_seqItems t2 rfl (wpAny_bind (wpAny_updateSeq_pair t2 fun g3 t3 e3 => ?_)))
  replace t3 : IsPair g3 TO x b := t3
  refine wpAny_bind (wpAny_letGo (wpAny_pure (wpAny_bind (wpAny_bind (wpAny_onRaise ?_)))))
  show wpAny _ _ (Builtin.SmallTypes.nextOf (.ref i2) >>= _) _ _ _
  refine wpAny_bind (nextOf_tuple_item (s := { s with heap := g3 }) (((h2.extBut e1.extBut D.i2z).extBut e2.extBut D.i12.symm).extBut e3.extBut D.TOi2.symm)
    (((hl2.extBut e1.extBut D.l2z).extBut e2.extBut D.l2i1).extBut e3.extBut D.l2TO) hy fun g4 p4 e4 => wpAny_pure ?_)
  have t4 : IsPair g4 TO x b := e4.extBut _ _ D.TOi2 t3
  refine wpAny_bind (wpAny_seqItems t4 rfl (wpAny_bind (wpAny_updateSeq_pair t4 fun g5 t5 e5 => ?_)))
  replace t5 : IsPair g5 TO x y := t5
  refine wpAny_bind (wpAny_letGo (wpAny_pure (wpAny_pure ?_)))
  refine wpAny_bind (wpAny_seqItems t5 rfl (wpAny_bind (wpAny_newTuple ?_)))
  have sz : g5.objs.size = s.heap.objs.size := by rw [e5.1, e4.1, e3.1, e2.1, e1.1]
  have z5 : IsZip g5 z TI TO .ellipsis := e5.extBut _ _ D.TOz.symm (e4.extBut _ _ D.i2z.symm (e3.extBut _ _ D.TOz.symm (e2.extBut _ _ D.i1z.symm z1)))
  have k5 : ∀ c o, c ≠ z → c ≠ TO → c ≠ i1 → c ≠ i2 → s.heap.get? c = some o → g5.get? c = some o := fun c o n1 n2 n3 n4 q =>
    e5.extBut _ _ n2 (e4.extBut _ _ n4 (e3.extBut _ _ n2 (e2.extBut _ _ n3 (e1.extBut _ _ n1 q))))
  have q1 : g5.IsListIter i1 l1 (m + 1) := ((p2.extBut e3.extBut D.TOi1.symm).extBut e4.extBut D.i12).extBut e5.extBut D.TOi1.symm
  have q2 : g5.IsTupleIter i2 l2 (n + 1) := p4.extBut e5.extBut D.TOi2.symm
  have zlt : z < g5.objs.size := Heap.lt_size z5
  show wpAny _ _ (Builtin.SmallTypes.ownedTupleHandOut (.ref z) (.ref g5.objs.size) >>= _) _ _ _
  refine wpAny_bind ?_
  unfold Builtin.SmallTypes.ownedTupleHandOut
  have z6 : IsZip (g5.push { cls := .type "tuple", data := .seq #[x, y] }) z TI TO .ellipsis := Heap.get?_push_of_some _ z5
  refine wpAny_bind (wpAny_setField_rec z6 (by simp) fun g7 z7 e7 => ?_)
  replace z7 : IsZip g7 z TI TO (rawInt g5.objs.size) := z7
  refine wpAny_setField_rec z7 (by simp) fun g8 z8 e8 => ?_
  replace z8 : IsZip g8 z TI TO (rawInt g5.objs.size) := z8
  have up : ∀ c o, c ≠ z → g5.get? c = some o → g8.get? c = some o := fun c o n1 q => e8.extBut _ _ n1 (e7.extBut _ _ n1 (Heap.get?_push_of_some _ q))
  have t8 : IsPair g8 g5.objs.size x y := e8.extBut _ _ (Nat.ne_of_gt zlt) (e7.extBut _ _ (Nat.ne_of_gt zlt) (Heap.get?_push_size _ rfl))
  have s8 : g8.objs.size = g5.objs.size + 1 := by rw [e8.1, e7.1, Heap.size_push]
  rw [sz] at z8 t8 s8
  refine wpAny_pure ⟨_, rfl, ?_⟩
  show Q (.ref g5.objs.size) _
  rw [sz]
  exact hQ g8 z8 (q1.at fun o q => up _ o D.i1z q) (q2.at fun o q => up _ o D.i2z q) t8 s8 fun c o n1 n2 n3 n4 q => up c o n1 (k5 c o n1 n2 n3 n4 q)

/-- a further pair: the tuple T that was told is still held by someone -/
theorem more_item {z TI TO T i1 i2 l1 l2 : Addr} {f : Bool} {oT : Obj} {m n : Nat} {xs ys : Array Value} {x y : Value} {Q : Value → Shared → Prop} (D : ZipApart z TI TO i1 i2 l1 l2)
    (hz : IsZipHeld s.heap z TI TO T f) (hT : s.heap.get? T = some oT) (hTI : IsPair s.heap TI (.ref i1) (.ref i2))
    (h1 : s.heap.IsListIter i1 l1 m) (h2 : s.heap.IsTupleIter i2 l2 n) (hl1 : s.heap.IsList l1 xs) (hl2 : s.heap.IsTuple l2 ys) (hx : xs[m]? = some x) (hy : ys[n]? = some y)
    (hQ : ∀ g, IsZipHeld g z TI TO T true → g.IsListIter i1 l1 (m + 1) → g.IsTupleIter i2 l2 (n + 1) → IsPair g s.heap.objs.size x y → g.objs.size = s.heap.objs.size + 1 →
      (∀ c o, c ≠ z → c ≠ i1 → c ≠ i2 → s.heap.get? c = some o → g.get? c = some o) → Q (.ref s.heap.objs.size) { s with heap := g }) :
    wpAny (model prog w) A (Builtin.«zip.__next__» ⟨[.ref z], []⟩) (fun fin s' => ∃ v, fin = .done (.ret v) ∧ Q v s') E s := by
  show wpAny _ _ (field (.ref z) 2 >>= _) _ _ _
  refine wpAny_bind (wpAny_field hz rfl (x := .bool false) rfl ?_)
  show wpAny _ _ (field (.ref z) 3 >>= _) _ _ _
  refine wpAny_bind (wpAny_field hz rfl (x := .ref TI) rfl (wpAny_bind (wpAny_seqItems hTI rfl ?_)))
  show wpAny _ _ (Builtin.SmallTypes.ownedTupleIsFree (.ref z) >>= _) _ _ _
  refine wpAny_bind (wpAny_tupleHeld_zip hz hT fun g1 z1 e1 => ?_)
  simp only [Bool.false_eq_true, if_false]
  refine wpAny_bind ?_
  rw [← Array.forIn_toList]
  simp only [List.forIn_cons, List.forIn_nil]
  refine wpAny_bind (wpAny_bind (wpAny_holding ?_))
  show wpAny _ _ (Builtin.SmallTypes.nextOf (.ref i1) >>= _) _ _ _
  refine wpAny_bind (wpAny_nextOf_list_item (s := { s with heap := g1 }) (h1.extBut e1.extBut D.i1z) (hl1.extBut e1.extBut D.l1z) hx fun g2 p2 e2 => wpAny_pure ?_)
  refine wpAny_pure (wpAny_bind (wpAny_bind (wpAny_holding ?_)))
  show wpAny _ _ (Builtin.SmallTypes.nextOf (.ref i2) >>= _) _ _ _
  refine wpAny_bind (nextOf_tuple_item (s := { s with heap := g2 }) ((h2.extBut e1.extBut D.i2z).extBut e2.extBut D.i12.symm) ((hl2.extBut e1.extBut D.l2z).extBut e2.extBut D.l2i1) hy fun g3 p3 e3 => wpAny_pure ?_)
  refine wpAny_pure (wpAny_pure ?_)
  show wpAny _ _ (newTuple [x, y] >>= _) _ _ _
  refine wpAny_bind (wpAny_newTuple ?_)
  have sz : g3.objs.size = s.heap.objs.size := by rw [e3.1, e2.1, e1.1]
  have z3 : IsZipHeld g3 z TI TO T true := e3.extBut _ _ D.i2z.symm (e2.extBut _ _ D.i1z.symm z1)
  have k3 : ∀ c o, c ≠ z → c ≠ i1 → c ≠ i2 → s.heap.get? c = some o → g3.get? c = some o := fun c o n1 n2 n3 q => e3.extBut _ _ n3 (e2.extBut _ _ n2 (e1.extBut _ _ n1 q))
  have q1 : g3.IsListIter i1 l1 (m + 1) := p2.extBut e3.extBut D.i12
  refine wpAny_pure ⟨_, rfl, ?_⟩
  show Q (.ref g3.objs.size) _
  have hp : IsPair (g3.push { cls := .type "tuple", data := .seq #[x, y] }) g3.objs.size x y := Heap.get?_push_size _ rfl
  have s4 : (g3.push { cls := .type "tuple", data := .seq #[x, y] }).objs.size = g3.objs.size + 1 := Heap.size_push ..
  rw [sz] at hp s4 ⊢
  exact hQ _ (Heap.get?_push_of_some _ z3) (q1.at fun o q => Heap.get?_push_of_some _ q) (p3.at fun o q => Heap.get?_push_of_some _ q) hp s4 fun c o n1 n2 n3 q => Heap.get?_push_of_some _ (k3 c o n1 n2 n3 q)

theorem no_item {z TI TO T i1 i2 l1 l2 : Addr} {f : Bool} {oT : Obj} {m : Nat} {xs : Array Value} {Q : Fin → Shared → Prop} (hh : A.handled = none) (D : ZipApart z TI TO i1 i2 l1 l2)
    (hz : IsZipHeld s.heap z TI TO T f) (hT : s.heap.get? T = some oT) (hTI : IsPair s.heap TI (.ref i1) (.ref i2))
    (h1 : s.heap.IsListIter i1 l1 m) (hl1 : s.heap.IsList l1 xs) (hend : xs[m]? = none)
    (hE : ∀ g e, (∀ c o, c ≠ z → c ≠ i1 → s.heap.get? c = some o → g.get? c = some o) → (∃ o, g.get? e = some o ∧ o.cls = .type "StopIteration") → E (.ref e) { s with heap := g }) :
    wpAny (model prog w) A (Builtin.«zip.__next__» ⟨[.ref z], []⟩) Q E s := by
  show wpAny _ _ (field (.ref z) 2 >>= _) _ _ _
  refine wpAny_bind (wpAny_field hz rfl (x := .bool false) rfl ?_)
  show wpAny _ _ (field (.ref z) 3 >>= _) _ _ _
  refine wpAny_bind (wpAny_field hz rfl (x := .ref TI) rfl (wpAny_bind (wpAny_seqItems hTI rfl ?_)))
  show wpAny _ _ (Builtin.SmallTypes.ownedTupleIsFree (.ref z) >>= _) _ _ _
  refine wpAny_bind (wpAny_tupleHeld_zip hz hT fun g1 z1 e1 => ?_)
  simp only [Bool.false_eq_true, if_false]
  refine wpAny_bind ?_
  rw [← Array.forIn_toList]
  simp only [List.forIn_cons, List.forIn_nil]
  refine wpAny_bind (wpAny_bind (wpAny_holding ?_))
  show wpAny _ _ (Builtin.SmallTypes.nextOf (.ref i1) >>= _) _ _ _
  refine wpAny_bind (wpAny_nextOf_list_end (s := { s with heap := g1 }) hh (h1.extBut e1.extBut D.i1z) (hl1.extBut e1.extBut D.l1z) hend fun g2 e x2 he => ?_)
  exact hE g2 e (fun c o n1 n2 q => x2 _ _ n2 (e1.extBut _ _ n1 q)) he

theorem next_of {z TI TO : Addr} {f0 : Value} {f1 : Bool} {Q : Option Value → Shared → Prop} (hz : s.heap.get? z = some { cls := .type "zip", dict := none, data := .fields #[f0, .bool f1, .bool false, .ref TI, .ref TO], slots := #[] })
    (h : wpAny (model prog w) A.in1 (Builtin.«zip.__next__» ⟨[.ref z], []⟩) (fun fin s' => ∃ v, fin = .done (.ret v) ∧ Q (some v) s')
      (fun e s' => wpAny (model prog w) A (isInstance e (.type "StopIteration")) (fun b s2 => b = true ∧ Q none s2) E s') s) : wpAny (model prog w) A (pyNext (.ref z)) Q E s := by
  have ty : s.TypeIs (.ref z) "zip" := ⟨_, hz, rfl⟩
  unfold pyNext
  refine wpAny_bind (wpAny_attempt (wpAny_callSpecial?_slot (name := Str.ofString "__next__") ty F.slot_zip_next
    (wpAny_call_entry F.slot_zip_next ty F.entry_zip_next (wpAny_mono h (fun fin s' q => ?_) fun e s' q => ?_) (F.args_zip_next_1 _))))
  · obtain ⟨v, rfl, q⟩ := q
    exact ⟨v, rfl, wpAny_pure q⟩
  · refine wpAny_bind (wpAny_mono q (fun b s2 r => ?_) fun _ _ r => r)
    obtain ⟨rfl, r⟩ := r
    exact wpAny_pure r
end
end Gz
end

section
set_option linter.all false
set_option maxRecDepth 100000
set_option maxHeartbeats 2000000
namespace Gz
open PySem
open PySem.Sem (wp)
/-- a zip of a list at l1 and a tuple at l2, laid from n on, i pairs told; at n + 5 the list that takes them -/
structure ZSt (h : Heap) (n l1 l2 : Nat) (xs ys : Array Value) (i : Nat) : Prop where
  ti : IsPair h (n + 2) (.ref n) (.ref (n + 1))
  it1 : h.IsListIter n l1 i
  it2 : h.IsTupleIter (n + 1) l2 i
  li : h.IsList l1 xs
  tu : h.IsTuple l2 ys
  own : (i = 0 ∧ IsZip h (n + 4) (n + 2) (n + 3) .none ∧ ∃ a b, IsPair h (n + 3) a b) ∨ ∃ (T : Nat) (f : Bool) (oT : Obj), IsZipHeld h (n + 4) (n + 2) (n + 3) T f ∧ h.get? T = some oT ∧ n + 6 ≤ T
section
variable {h g : Heap} {n l1 l2 i : Nat} {xs ys : Array Value}
theorem ZSt.keep (z : ZSt h n l1 l2 xs ys i) (h1 : l1 < n) (h2 : l2 < n) (k : ∀ (b : Nat) o, b ≠ n + 5 → h.get? b = some o → g.get? b = some o) : ZSt g n l1 l2 xs ys i where
  ti := k (n + 2) _ (by omega) z.ti
  it1 := z.it1.at fun o q => k n o (by omega) q
  it2 := z.it2.at fun o q => k (n + 1) o (by omega) q
  li := z.li.at fun o q => k l1 o (by omega) q
  tu := z.tu.at fun o q => k l2 o (by omega) q
  own := z.own.elim (fun ⟨e, q, a, b, p⟩ => .inl ⟨e, k (n + 4) _ (by omega) q, a, b, k (n + 3) _ (by omega) p⟩) fun ⟨T, f, oT, q, t, l⟩ => .inr ⟨T, f, oT, k (n + 4) _ (by omega) q, k T _ (by omega) t, l⟩
end
section
variable {prog : Program} {w : World} {A : Around} {E : Value → Shared → Prop} {s : Shared} {n l1 l2 i : Nat} {xs ys : Array Value}
theorem z_item {x y : Value} {Q : Option Value → Shared → Prop} (z : ZSt s.heap n l1 l2 xs ys i) (h1 : l1 < n) (h2 : l2 < n) (hs : n + 6 ≤ s.heap.objs.size) (hx : xs[i]? = some x) (hy : ys[i]? = some y)
    (hQ : ∀ g, ZSt g n l1 l2 xs ys (i + 1) → IsPair g s.heap.objs.size x y → g.objs.size = s.heap.objs.size + 1 → (∀ (c : Nat) o, c ≠ n + 4 → c ≠ n + 3 → c ≠ n → c ≠ n + 1 → s.heap.get? c = some o → g.get? c = some o) →
      Q (some (.ref s.heap.objs.size)) { s with heap := g }) : wpAny (model prog w) A (pyNext (.ref (n + 4))) Q E s := by
  have D := PySem.W.ktu_apart n l1 l2 h1 h2
  rcases z.own with ⟨e, q, a, b, p⟩ | ⟨T, f, oT, q, t, l⟩
  · refine next_of q (first_item D q z.ti p z.it1 z.it2 z.li z.tu hx hy fun g g1 g2 g3 g4 g5 g6 => ?_)
    refine hQ g ⟨g6 (n + 2) _ (by show ¬ (n + 2 = n + 4); omega) (by show ¬ (n + 2 = n + 3); omega) (by show ¬ (n + 2 = n); omega) (by show ¬ (n + 2 = n + 1); omega) z.ti, g2, g3, z.li.at fun o r => g6 l1 o (by show ¬ (l1 = n + 4); omega) (by show ¬ (l1 = n + 3); omega) (by show ¬ (l1 = n); omega) (by show ¬ (l1 = n + 1); omega) r,
      z.tu.at fun o r => g6 l2 o (by show ¬ (l2 = n + 4); omega) (by show ¬ (l2 = n + 3); omega) (by show ¬ (l2 = n); omega) (by show ¬ (l2 = n + 1); omega) r, .inr ⟨s.heap.objs.size, false, _, g1, g4, hs⟩⟩ g4 g5 fun c o n1 n2 n3 n4 r => g6 c o n1 n2 n3 n4 r
  · refine next_of q (more_item D q t z.ti z.it1 z.it2 z.li z.tu hx hy fun g g1 g2 g3 g4 g5 g6 => ?_)
    refine hQ g ⟨g6 (n + 2) _ (by show ¬ (n + 2 = n + 4); omega) (by show ¬ (n + 2 = n); omega) (by show ¬ (n + 2 = n + 1); omega) z.ti, g2, g3, z.li.at fun o r => g6 l1 o (by show ¬ (l1 = n + 4); omega) (by show ¬ (l1 = n); omega) (by show ¬ (l1 = n + 1); omega) r,
      z.tu.at fun o r => g6 l2 o (by show ¬ (l2 = n + 4); omega) (by show ¬ (l2 = n); omega) (by show ¬ (l2 = n + 1); omega) r, .inr ⟨T, true, oT, g1, g6 T _ (by show ¬ (T = n + 4); omega) (by show ¬ (T = n); omega) (by show ¬ (T = n + 1); omega) t, l⟩⟩ g4 g5 fun c o n1 _ n3 n4 r => g6 c o n1 n3 n4 r
theorem z_done {Q : Option Value → Shared → Prop} (hh : A.handled = none) (z : ZSt s.heap n l1 l2 xs ys i) (h1 : l1 < n) (h2 : l2 < n) (h0 : i ≠ 0) (hend : xs[i]? = none)
    (hQ : ∀ g, (∀ (c : Nat) o, c ≠ n + 4 → c ≠ n → s.heap.get? c = some o → g.get? c = some o) → Q none { s with heap := g }) : wpAny (model prog w) A (pyNext (.ref (n + 4))) Q E s := by
  have D := PySem.W.ktu_apart n l1 l2 h1 h2
  have hh1 : A.in1.handled = none := hh
  rcases z.own with ⟨e, _⟩ | ⟨T, f, oT, q, t, l⟩
  · exact absurd e h0
  · refine next_of q (no_item hh1 D q t z.ti z.it1 z.li hend fun g e k he => ?_)
    obtain ⟨o, ho, hc⟩ := he
    exact wpAny_isInstance (T := "StopIteration") (b := true) ⟨o, ho, hc⟩ isSubtype_stop ⟨rfl, hQ g fun c o n1 n2 r => k c o n1 n2 r⟩
end
/-- what was made: pairs, one above the other, from lo on -/
structure MadeZ (xs ys : Array Value) (lo : Nat) (h : Heap) (ts : List Nat) : Prop where
  rise : ts.Pairwise (· < ·)
  above : ∀ a ∈ ts, lo ≤ a
  pairs : ∀ (j : Nat) (a : Nat), ts[j]? = some a → ∃ x y, xs[j]? = some x ∧ ys[j]? = some y ∧ IsPair h a x y
theorem MadeZ.there {xs ys : Array Value} {lo : Nat} {h : Heap} {ts : List Nat} (g : MadeZ xs ys lo h ts) {a : Nat} (ha : a ∈ ts) : a < h.objs.size := by
  obtain ⟨j, hj⟩ := List.mem_iff_getElem?.mp ha
  obtain ⟨_, _, _, _, e⟩ := g.pairs j a hj
  exact Heap.lt_size e
abbrev LstAt (h : Heap) (S : Nat) (acc : Array Value) (c : Nat) : Prop := h.get? S = some { cls := .type "list", dict := none, data := .seq acc c, slots := #[] }
section
variable {prog : Program} {w : World} {A : Around} {s : Shared} {R : Result → Shared → Prop} {n l1 l2 : Nat} {xs ys : Array Value}
theorem z_loop (hh : A.handled = none) (h1 : l1 < n) (h2 : l2 < n) (hxy : xs.size = ys.size) (h0 : xs.size ≠ 0) (hn : xs.size ≤ sizeLine) (res : Value)
    (hR : ∀ g acc c ts, (∀ (b : Nat) o, b < n → s.heap.get? b = some o → g.get? b = some o) → LstAt g (n + 5) acc c → ts.length = xs.size → MadeZ xs ys (n + 6) g ts → acc.toList = ts.map Value.ref → R (.ok (.ret res)) { s with heap := g }) :
    ∀ (k i : Nat) (g : Heap) (c : Nat) (acc : Array Value) (ts : List Nat), xs.size - i = k → i ≤ xs.size → ZSt g n l1 l2 xs ys i → (∀ (b : Nat) o, b < n → s.heap.get? b = some o → g.get? b = some o) → LstAt g (n + 5) acc c → acc.toList = ts.map Value.ref → ts.length = i →
      MadeZ xs ys (n + 6) g ts → n + 6 ≤ g.objs.size → codeAny (model prog w) A (.builtin "list.extend.loop" ⟨[.ref (n + 5), .ref (n + 4), res], []⟩) R { s with heap := g } := by
  intro k
  induction k with
  | zero =>
    intro i g c acc ts hk hi z keep hS hacc hl hM hz
    have hh1 : A.in1.handled = none := hh
    refine codeAny_builtin F.entry_extend_loop ?_
    rw [Around.under_plainId F.plain_extend_loop _]
    show wpAny _ A.in1 (pyNext (.ref (n + 4)) >>= _) _ _ _
    refine wpAny_bind (z_done (s := { s with heap := g }) hh1 z h1 h2 (by omega) (by rw [Array.getElem?_eq_none]; omega) fun g2 k2 => ?_)
    refine wpAny_pure (hR g2 acc c ts (fun b o hb q => k2 b o (by omega) (by omega) (keep b o hb q)) (k2 (n + 5) _ (by omega) (by omega) hS) (by omega) ⟨hM.rise, hM.above, fun j a hj => ?_⟩ hacc)
    obtain ⟨x, y, ex, ey, p⟩ := hM.pairs j a hj
    have := hM.above a (List.mem_of_getElem? hj)
    exact ⟨x, y, ex, ey, k2 a _ (by omega) (by omega) p⟩
  | succ k ih =>
    intro i g c acc ts hk hi z keep hS hacc hl hM hz
    have hlt : i < xs.size := by omega
    have hsz : acc.size = i := by rw [← Array.length_toList, hacc, List.length_map, hl]
    refine codeAny_builtin F.entry_extend_loop ?_
    rw [Around.under_plainId F.plain_extend_loop _]
    show wpAny _ A.in1 (pyNext (.ref (n + 4)) >>= _) _ _ _
    refine wpAny_bind (z_item (s := { s with heap := g }) z h1 h2 hz (Array.getElem?_eq_getElem hlt) (Array.getElem?_eq_getElem (by omega : i < ys.size)) fun g2 z2 hp hz2 k2 => ?_)
    dsimp only at hp hz2 k2 ⊢
    have hS2 : LstAt g2 (n + 5) acc c := k2 (n + 5) _ (by omega) (by omega) (by omega) (by omega) hS
    have up : ∀ (b : Nat) o, b ≠ n + 5 → g2.get? b = some o → (g2.update (n + 5) (Obj.mapSeq (·.push (Value.ref g.objs.size)))).get? b = some o := fun b o hb e => (Heap.get?_update_other _ _ (Ne.symm hb)).trans e
    have hpu := up _ _ (by omega : g.objs.size ≠ n + 5) hp
    show wpAny _ A.in1 (updateSeq (n + 5) (·.push (Value.ref g.objs.size)) >>= _) _ _ _
    refine wpAny_bind ?_
    refine wpAny_updateSeq hS2 rfl (wpAny_pure ⟨plainId_quiet F.plain_extend_loop _, ih (i + 1) _ _ (acc.push (Value.ref g.objs.size)) (ts ++ [g.objs.size]) (by omega) hlt (z2.keep h1 h2 up)
      (fun b o hb q => up b o (by omega) (k2 b o (by omega) (by omega) (by omega) (by omega) (keep b o hb q))) (Heap.get?_update_self _ hS2 rfl) (by rw [Array.toList_push, hacc, List.map_append] <;> rfl) (by rw [List.length_append, hl] <;> rfl) ⟨?_, ?_, ?_⟩ ?_⟩) (by rw [hsz]; omega) (by show (acc.push (Value.ref g.objs.size)).size ≤ sizeLine + 1; rw [Array.size_push, hsz]; omega)
    · refine List.pairwise_append.mpr ⟨hM.rise, List.pairwise_singleton _ _, fun a ha b hb => ?_⟩
      rw [List.mem_singleton.mp hb]
      exact hM.there ha
    · intro a ha
      rcases List.mem_append.mp ha with ha | ha
      · exact hM.above a ha
      · rw [List.mem_singleton.mp ha]; exact hz
    · intro j b hj
      rcases Nat.lt_trichotomy j ts.length with q | q | q
      · rw [List.getElem?_append_left q] at hj
        obtain ⟨x, y, ex, ey, p⟩ := hM.pairs j b hj
        have hb := hM.above b (List.mem_of_getElem? hj)
        exact ⟨x, y, ex, ey, up b _ (by omega) (k2 b _ (by omega) (by omega) (by omega) (by omega) p)⟩
      · subst q
        have hb : g.objs.size = b := by simpa using hj
        subst hb
        exact ⟨_, _, by rw [hl]; exact Array.getElem?_eq_getElem hlt, by rw [hl]; exact Array.getElem?_eq_getElem (by omega : i < ys.size), hpu⟩
      · have e : (ts ++ [g.objs.size])[j]? = none := List.getElem?_eq_none (by rw [List.length_append, List.length_singleton]; omega)
        rw [e] at hj
        cases hj
    · exact Nat.le_trans hz (Nat.le_of_lt (Heap.lt_size hpu))
end
end Gz
end

section
set_option linter.all false
set_option maxRecDepth 100000
set_option maxHeartbeats 2000000
namespace Gz
open PySem
open PySem.Sem (wp)
theorem zip_no_len : typeLookup (.type "zip") "__len__" = pure none := am_miss_of_fast (by decide +kernel)
theorem zip_no_hint : typeLookup (.type "zip") "__length_hint__" = pure none := am_miss_of_fast (by decide +kernel)
abbrev BackTo (prog : Program) (w : World) (A : Around) (R : Result → Shared → Prop) : Fin → Shared → Prop := fun fin s' => match fin with
  | .done f => R (.ok f) s'
  | .again c' => c'.quiet = true ∧ codeAny (model prog w) A c' R s'
section
variable {prog : Program} {w : World} {A : Around} {s : Shared} {R : Result → Shared → Prop} {n l1 l2 : Nat} {xs ys : Array Value}
theorem z_extend (hh : A.handled = none) (h1 : l1 < n) (h2 : l2 < n) (hxy : xs.size = ys.size) (h0 : xs.size ≠ 0) (hn : xs.size ≤ sizeLine) (res : Value) {c0 : Nat} (z : ZSt s.heap n l1 l2 xs ys 0) (hq : IsZip s.heap (n + 4) (n + 2) (n + 3) .none) (hS : LstAt s.heap (n + 5) #[] c0)
    (hR : ∀ g acc c ts, (∀ (b : Nat) o, b < n → s.heap.get? b = some o → g.get? b = some o) → LstAt g (n + 5) acc c → ts.length = xs.size → MadeZ xs ys (n + 6) g ts → acc.toList = ts.map Value.ref → R (.ok (.ret res)) { s with heap := g }) :
    wpAny (model prog w) A.in1 (Builtin.List.listExtendWith (.ref (n + 5)) (.ref (n + 4)) res) (BackTo prog w A R) (fun e s' => R (.error e) s') s := by
  have q := hq
  have ty : s.TypeIs (.ref (n + 4)) "zip" := ⟨_, q, rfl⟩
  unfold Builtin.List.listExtendWith
  refine wpAny_bind (wpAny_typeOf ty ?_)
  have e1 : Builtin.List.listSameRef (.ref (n + 5)) (.ref (n + 4)) = false := by simp [Builtin.List.listSameRef]
  have e2 : (Value.type "zip" == Value.type "list") = false := by decide
  have e3 : (Value.type "zip" == Value.type "tuple") = false := by decide
  simp only [e1, e2, e3, Bool.or_false, Bool.false_eq_true, if_false]
  refine wpAny_bind (wpAny_pyIter_zip q (wpAny_bind (wpAny_holding ?_)))
  unfold Builtin.List.listLengthHint
  refine wpAny_bind (wpAny_specialOf ty zip_no_len ?_)
  show wpAny _ A.in1 (specialOf (Value.ref (n + 4)) (Str.ofString "__length_hint__") >>= _) _ _ _
  refine wpAny_bind (wpAny_specialOf ty zip_no_hint (wpAny_pure ?_))
  show wpAny _ A.in1 (rule "list.extend.makes-room" >>= fun _ => Builtin.List.listTouch (.ref (n + 5)) >>= fun _ =>
    again (.builtin "list.extend.loop" ⟨[.ref (n + 5), .ref (n + 4), res], []⟩)) _ _ _
  refine wpAny_bind (wpAny_rule (wpAny_bind ?_))
  show wpAny _ A.in1 (updateSeq (n + 5) (·.push .none) >>= fun _ => updateSeq (n + 5) (·.pop)) _ _ _
  refine wpAny_bind (wpAny_updateSeq hS rfl ?_)
  have hS2 := Heap.get?_update_self (Obj.mapSeq (·.push Value.none)) hS rfl
  refine wpAny_updateSeq (hz := by seq_fits) hS2 rfl ?_
  have hS3 := Heap.get?_update_self (Obj.mapSeq (·.pop)) hS2 rfl
  have oth : ∀ (b : Nat) o, b ≠ n + 5 → s.heap.get? b = some o → ((s.heap.update (n + 5) (Obj.mapSeq (·.push Value.none))).update (n + 5) (Obj.mapSeq (·.pop))).get? b = some o :=
    fun b o hb e => (Heap.get?_update_other _ _ (Ne.symm hb)).trans ((Heap.get?_update_other _ _ (Ne.symm hb)).trans e)
  refine wpAny_pure ⟨plainId_quiet F.plain_extend_loop _, z_loop (s := s) hh h1 h2 hxy h0 hn res hR xs.size 0 _ _ #[] [] (Nat.sub_zero _) (Nat.zero_le _) (z.keep h1 h2 oth) (fun b o hb e => oth b o (by omega) e) hS3 rfl rfl
    ⟨List.Pairwise.nil, (fun _ ha => nomatch ha), fun j a hj => by simp at hj⟩ (Heap.lt_size hS3)⟩
end
end Gz
end

section
set_option linter.all false
set_option maxRecDepth 100000
set_option maxHeartbeats 2000000
namespace Gz
open PySem
open PySem.Sem (wp)
section
variable {prog : Program} {w : World} {A : Around} {E : Value → Shared → Prop} {s : Shared} {R : Result → Shared → Prop} {n l1 l2 : Nat} {xs ys : Array Value}
theorem z_init (hh : A.handled = none) (h1 : l1 < n) (h2 : l2 < n) (hxy : xs.size = ys.size) (h0 : xs.size ≠ 0) (hn : xs.size ≤ sizeLine) (z : ZSt s.heap n l1 l2 xs ys 0) (hq : IsZip s.heap (n + 4) (n + 2) (n + 3) .none)
    (hS : s.heap.get? (n + 5) = some { cls := .type "list", data := .seq #[] })
    (hR : ∀ g acc c ts, (∀ (b : Nat) o, b < n → s.heap.get? b = some o → g.get? b = some o) → LstAt g (n + 5) acc c → ts.length = xs.size → MadeZ xs ys (n + 6) g ts → acc.toList = ts.map Value.ref → R (.ok (.ret .none)) { s with heap := g }) :
    wpAny (model prog w) A.in1 (Builtin.«list.__init__» ⟨[.ref (n + 5), .ref (n + 4)], []⟩) (BackTo prog w A R) (fun e s' => R (.error e) s') s := by
  show wpAny _ A.in1 (do let old ← Builtin.List.listItems (.ref (n + 5)); Builtin.List.listUpdate (.ref (n + 5)) (fun _ => #[]); letGo old.toList.reverse; Builtin.List.listExtendWith (.ref (n + 5)) (.ref (n + 4)) .none) _ _ s
  refine wpAny_bind ?_
  unfold Builtin.List.listItems
  refine wpAny_bind (wpAny_seqItems hS rfl (wpAny_pure ?_))
  show wpAny _ A.in1 (updateSeq (n + 5) (fun _ => #[]) >>= fun _ => letGo (#[] : Array Value).toList.reverse >>= fun _ => Builtin.List.listExtendWith (.ref (n + 5)) (.ref (n + 4)) .none) _ _ s
  refine wpAny_bind (wpAny_updateSeq hS rfl ?_)
  have hS2 := Heap.get?_update_self (Obj.mapSeq (fun _ => (#[] : Array Value))) hS rfl
  have oth : ∀ (b : Nat) o, b ≠ n + 5 → s.heap.get? b = some o → (s.heap.update (n + 5) (Obj.mapSeq (fun _ => (#[] : Array Value)))).get? b = some o :=
    fun b o hb e => (Heap.get?_update_other _ _ (Ne.symm hb)).trans e
  refine wpAny_bind (wpAny_letGo ?_)
  exact z_extend hh h1 h2 hxy h0 hn .none (z.keep h1 h2 oth) (oth (n + 4) _ (by omega) hq) hS2 fun g acc c ts k a b d e => hR g acc c ts (fun b o hb q => k b o hb (oth b o (by omega) q)) a b d e
theorem call_list_zip {Q : Value → Shared → Prop} (hh : A.handled = none) (h1 : l1 < n) (h2 : l2 < n) (hxy : xs.size = ys.size) (h0 : xs.size ≠ 0) (hn : xs.size ≤ sizeLine) (z : ZSt s.heap n l1 l2 xs ys 0) (hq : IsZip s.heap (n + 4) (n + 2) (n + 3) .none) (hsz : s.heap.objs.size = n + 5)
    (hQ : ∀ g acc c ts, (∀ (b : Nat) o, b < n → s.heap.get? b = some o → g.get? b = some o) → LstAt g (n + 5) acc c → ts.length = xs.size → MadeZ xs ys (n + 6) g ts → acc.toList = ts.map Value.ref → Q (.ref (n + 5)) { s with heap := g }) :
    wpAny (model prog w) A (call (.type "list") [.ref (n + 4)]) Q E s := by
  refine callType_codes (Q₁ := fun obj s1 => obj = .ref (n + 5) ∧ s1 = { s with heap := s.heap.push { cls := .type "list", data := .seq #[] } }) F.called_list (F.typeCall_list_1 _) F.entry_list_init
    (code_list_new _ ⟨by rw [hsz], rfl⟩) fun obj s1 hh1 => ?_
  obtain ⟨rfl, rfl⟩ := hh1
  have hS : (s.heap.push { cls := .type "list", data := .seq #[] }).get? (n + 5) = some { cls := .type "list", data := .seq #[] } := by
    rw [← hsz]
    exact Heap.get?_push_size _ rfl
  refine ⟨⟨_, hS, rfl⟩, F.args_list_init_2 _ _, z_init (A := A.in1) hh h1 h2 hxy h0 hn (z.keep h1 h2 fun b o _ q => Heap.get?_push_of_some _ q) (Heap.get?_push_of_some _ hq) hS fun g acc c ts k a b d e => ?_⟩
  exact ⟨rfl, hQ g acc c ts (fun b o hb q => k b o hb (Heap.get?_push_of_some _ q)) a b d e⟩
/-! ### the zip is made -/
abbrev mH1 (h : Heap) (l1 : Addr) : Heap := h.push { cls := .type "list_iterator", data := .fields #[.ref l1, .int 0 0] }
abbrev mH2 (h : Heap) (l1 l2 : Addr) : Heap := (mH1 h l1).push { cls := .type "tuple_iterator", data := .fields #[.ref l2, .int 0 0] }
abbrev mH3 (h : Heap) (l1 l2 : Addr) : Heap := (mH2 h l1 l2).push { cls := .type "tuple", data := .seq #[.ref h.objs.size, .ref (mH1 h l1).objs.size] }
abbrev mH4 (h : Heap) (l1 l2 : Addr) : Heap := (mH3 h l1 l2).push { cls := .type "tuple", data := .seq #[.none, .none] }
abbrev mH5 (h : Heap) (l1 l2 : Addr) : Heap := (mH4 h l1 l2).push { cls := .type "zip", data := .fields #[.none, .bool false, .bool false, .ref (mH2 h l1 l2).objs.size, .ref (mH3 h l1 l2).objs.size] }
theorem meets_new (l1 l2 : Addr) (xs ys : Array Value) :
    Meets (Builtin.«zip.__new__» ⟨[.type "zip", .ref l1, .ref l2], []⟩) (fun _ R s => s.heap.IsList l1 xs ∧ s.heap.IsTuple l2 ys ∧ R (.ok (.ret (.ref (mH4 s.heap l1 l2).objs.size))) { s with heap := mH5 s.heap l1 l2 }) :=
  .of_wp fun prog w A R s h => by
    obtain ⟨hp, g, d, tk, os⟩ := s
    obtain ⟨hl1, hl2, h⟩ := h
    have hsub := sub_zip
    have hL1 : Heap.IsList (Shared.heap ⟨hp, g, d, tk, os⟩) l1 xs := hl1
    have hL2 : Heap.IsTuple (Shared.heap ⟨hp.push { cls := .type "list_iterator", data := .fields #[.ref l1, .int 0 0] }, g, d, tk, os⟩) l2 ys := Heap.IsTuple.push hl2 _
    wp_walk using wpAny_pyIter_list hL1, wpAny_pyIter_tuple hL2
    exact ⟨_, rfl, h⟩
theorem call_zip {Q : Value → Shared → Prop} (hl1 : s.heap.IsList l1 xs) (hl2 : s.heap.IsTuple l2 ys)
    (h : ∀ g, ZSt g s.heap.objs.size l1 l2 xs ys 0 → IsZip g (s.heap.objs.size + 4) (s.heap.objs.size + 2) (s.heap.objs.size + 3) .none → g.objs.size = s.heap.objs.size + 5 → (∀ c o, s.heap.get? c = some o → g.get? c = some o) → Q (.ref (s.heap.objs.size + 4)) { s with heap := g }) :
    wpAny (model prog w) A (call (.type "zip") [.ref l1, .ref l2]) Q E s := by
  refine callType_new F.called_zip (by decide) (F.typeCall_zip_2 _ _) (F.newCall_zip_2 _ _) (fun obj => F.args_object_init_3 obj _ _) F.entry_zip_new (meets_new l1 l2 xs ys) ⟨hl1, hl2, ?_⟩
  have z1 : (mH1 s.heap l1).objs.size = s.heap.objs.size + 1 := Heap.size_push ..
  have z2 : (mH2 s.heap l1 l2).objs.size = s.heap.objs.size + 2 := by rw [Heap.size_push, z1]
  have z3 : (mH3 s.heap l1 l2).objs.size = s.heap.objs.size + 3 := by rw [Heap.size_push, z2]
  have z4 : (mH4 s.heap l1 l2).objs.size = s.heap.objs.size + 4 := by rw [Heap.size_push, z3]
  have z5 : (mH5 s.heap l1 l2).objs.size = s.heap.objs.size + 5 := by rw [Heap.size_push, z4]
  have g5 : (mH5 s.heap l1 l2).get? (mH4 s.heap l1 l2).objs.size = some _ := Heap.get?_push_size _ rfl
  have g4 : (mH5 s.heap l1 l2).get? (mH3 s.heap l1 l2).objs.size = some _ := Heap.get?_push_of_some _ (Heap.get?_push_size _ rfl)
  have g3 : (mH5 s.heap l1 l2).get? (mH2 s.heap l1 l2).objs.size = some _ := Heap.get?_push_of_some _ (Heap.get?_push_of_some _ (Heap.get?_push_size _ rfl))
  have g2 : (mH5 s.heap l1 l2).get? (mH1 s.heap l1).objs.size = some _ := Heap.get?_push_of_some _ (Heap.get?_push_of_some _ (Heap.get?_push_of_some _ (Heap.get?_push_size _ rfl)))
  have g1 : (mH5 s.heap l1 l2).get? s.heap.objs.size = some _ := Heap.get?_push_of_some _ (Heap.get?_push_of_some _ (Heap.get?_push_of_some _ (Heap.get?_push_of_some _ (Heap.get?_push_size _ rfl))))
  have kp : ∀ c o, s.heap.get? c = some o → (mH5 s.heap l1 l2).get? c = some o := fun c o x => Heap.get?_push_of_some _ (Heap.get?_push_of_some _ (Heap.get?_push_of_some _ (Heap.get?_push_of_some _ (Heap.get?_push_of_some _ x))))
  show _ ∧ _
  rw [z2, z3, z4] at g5
  rw [z1, z2] at g3
  rw [z3] at g4
  rw [z1] at g2
  rw [z4]
  exact ⟨⟨_, g5, rfl⟩, h _ ⟨g3, ⟨_, g1, rfl, rfl⟩, ⟨_, g2, rfl, rfl⟩, hl1.at fun o q => kp l1 o q, hl2.at fun o q => kp l2 o q, .inl ⟨rfl, g5, _, _, g4⟩⟩ g5 z5 kp⟩
end
end Gz
end

section
set_option linter.all false
set_option maxRecDepth 100000
set_option maxHeartbeats 2000000
namespace Gk
open PySem PySem.Spec PyProof.Rows L2 Evl
/-! ## list(zip(a list, a tuple)) -/
/-- several new objects are laid at once -/
theorem laidN {X : Cx} {pins : List (Addr × Obj)} {σ : L2.St} {H H' : Hp} {s : Shared} {h' : Heap} {t' : Nat} (I : Inv X pins σ H s) (k : ∀ b u, s.heap.get? b = some u → h'.get? b = some u) (x : Ex H H')
    (hn : ∀ a o, H' a = some o → H a = some o ∨ (s.heap.objs.size ≤ a ∧ ObjOk X.prog X.w H' h' a o)) : Inv X pins σ H' { s with heap := h', toks := t' } := by
  refine I.un (Un.mk (fun b o q _ _ _ => k b o q) (fun b o q _ _ _ => ⟨o.slots, k b o q⟩) (fun b o q n _ => ?_) (fun b o q _ => ⟨o, k b o q⟩) (fun b xs q => x _ _ q) (fun b o v q => x _ _ q) (fun b ps q => ⟨#[], by rw [x _ _ q]; simp⟩)) fun b o q => ?_
  · cases e : H' b with
    | none => rfl
    | some o2 =>
      rcases hn b o2 e with r | ⟨r, _⟩
      · rw [n] at r
        cases r
      · exact absurd (Heap.lt_size q) (Nat.not_lt.mpr r)
  · rcases hn b o q with r | ⟨_, r⟩
    · exact (I.hok b o r).stay (fun c v _ z => k c v z) (fun c z => x _ _ z) fun c xs z => x _ _ z
    · exact r
def layZ (H : Hp) : List Nat → List V → List V → Hp
  | t :: ts, x :: xs, y :: ys => upd (layZ H ts xs ys) t (.tup [x, y])
  | _, _, _ => H
theorem layZ_off {H : Hp} {b : Nat} : ∀ {ts : List Nat} {xs ys : List V}, b ∉ ts → layZ H ts xs ys b = H b
  | [], _, _, _ => rfl
  | _ :: _, [], _, _ => rfl
  | _ :: _, _ :: _, [], _ => rfl
  | t :: ts, x :: xs, y :: ys, h => by
    show upd (layZ H ts xs ys) t (.tup [x, y]) b = H b
    rw [upd_ne fun z => h (by rw [z]; exact List.mem_cons_self ..)]
    exact layZ_off fun z => h (List.mem_cons_of_mem _ z)
theorem layZ_at {H : Hp} : ∀ {ts : List Nat} {xs ys : List V} {j t : Nat} {x y : V}, ts.Pairwise (· < ·) → ts[j]? = some t → xs[j]? = some x → ys[j]? = some y → layZ H ts xs ys t = some (.tup [x, y])
  | [], _, _, _, _, _, _, _, h, _, _ => by simp at h
  | _ :: _, [], _, _, _, _, _, _, _, h, _ => by simp at h
  | _ :: _, _ :: _, [], _, _, _, _, _, _, _, h => by simp at h
  | t0 :: ts, x0 :: xs, y0 :: ys, 0, t, x, y, _, h1, h2, h3 => by
    have e1 : t0 = t := by simpa using h1
    have e2 : x0 = x := by simpa using h2
    have e3 : y0 = y := by simpa using h3
    subst e1 e2 e3
    exact upd_same
  | t0 :: ts, x0 :: xs, y0 :: ys, j + 1, t, x, y, p, h1, h2, h3 => by
    obtain ⟨p1, p2⟩ := List.pairwise_cons.mp p
    have h1' : ts[j]? = some t := by simpa using h1
    have lt := p1 t (List.mem_of_getElem? h1')
    show upd (layZ H ts xs ys) t0 (.tup [x0, y0]) t = _
    rw [upd_ne (Nat.ne_of_gt lt)]
    exact layZ_at p2 h1' (by simpa using h2) (by simpa using h3)
theorem layZ_new {H : Hp} {b : Nat} {o : HO} {ts : List Nat} {xs ys : List V} (p : ts.Pairwise (· < ·)) (l1 : ts.length = xs.length) (l2 : ts.length = ys.length) (h : layZ H ts xs ys b = some o) (hm : b ∈ ts) : ∃ (j : Nat) (x y : V), ts[j]? = some b ∧ xs[j]? = some x ∧ ys[j]? = some y ∧ o = .tup [x, y] := by
  obtain ⟨j, hj⟩ := List.mem_iff_getElem?.mp hm
  have lt : j < ts.length := (List.getElem?_eq_some_iff.mp hj).1
  have ex := List.getElem?_eq_getElem (l := xs) (i := j) (by omega)
  have ey := List.getElem?_eq_getElem (l := ys) (i := j) (by omega)
  refine ⟨j, _, _, hj, ex, ey, ?_⟩
  rw [layZ_at p hj ex ey] at h
  exact (Option.some.inj h).symm
theorem fts_pairs {K : PySem.W.Frag} {H : Hp} : ∀ {ds es : List PyData} {xs ys : List V} {ts : List Nat}, Fts K H ds xs → Fts K H es ys → ts.length = ds.length → ds.length = es.length → (∀ (j t : Nat) x y, ts[j]? = some t → xs[j]? = some x → ys[j]? = some y → H t = some (.tup [x, y])) → Fts K H (pairs ds es) (ts.map V.ref)
  | [], _, xs, ys, ts, _, _, l1, _, _ => by
    have e : ts = [] := List.length_eq_zero_iff.mp (by simpa using l1)
    subst e
    rfl
  | _ :: _, [], _, _, _, _, _, _, l2, _ => by simp at l2
  | d :: ds, e :: es, _, _, [], _, _, l1, _, _ => by simp at l1
  | d :: ds, e :: es, _, _, t :: ts, ⟨x, xs, e1, f1, r1⟩, ⟨y, ys, e2, f2, r2⟩, l1, l2, h => by
    subst e1 e2
    refine ⟨.ref t, ts.map V.ref, rfl, ⟨t, [x, y], rfl, SqT.of (h 0 t x y rfl rfl rfl), x, [y], rfl, f1, Fts.one f2⟩, fts_pairs r1 r2 (by simpa using l1) (by simpa using l2) fun j t2 x2 y2 h1 h2 h3 => h (j + 1) t2 x2 y2 (by simpa using h1) (by simpa using h2) (by simpa using h3)⟩
theorem vals_refs : ∀ ts : List Nat, Vals (ts.map V.ref) (ts.map Value.ref)
  | [] => .nil
  | t :: ts => .cons rfl (vals_refs ts)
section
variable {X : Cx} {a b : Expr} {G : List Slot} {D : Lists} {ds es : List PyData} {p p2 p3 pos : Pos}
theorem pl_listzip (ha : PR X G D a ds) (hb : PD X G D b (.tuple es)) (hl : ds.length = es.length) (h0 : ds.length ≠ 0) (hz : ds.length ≤ 1000) (hc : X.calm = true) (hmL : X.mg "list" = none) (hmZ : X.mg "zip" = none) (hgL : Gl X "list" := by rfl) (hgZ : Gl X "zip" := by rfl)
    (hs : starEach [.Call (.Name "zip" p2) [a, b] [] p3] X.env = (false, eval (.Call (.Name "zip" p2) [a, b] [] p3) X.env) :: starEach [] X.env := by rfl) (hs1 : starEach [a, b] X.env = (false, eval a X.env) :: starEach [b] X.env := by rfl) (hs2 : starEach [b] X.env = (false, eval b X.env) :: starEach [] X.env := by rfl)
    (hpl : (backTo pos (starEach [] X.env)).any (·.1) = false := by rfl) (hpl2 : (backTo p3 (starEach [b] X.env)).any (·.1) = false := by rfl) : PL X G D (.Call (.Name "list" p) [.Call (.Name "zip" p2) [a, b] [] p3] [] pos) (pairs ds es) := by
  refine ⟨fun pins s σ H Q I ⟨E, q⟩ => ?_⟩
  have hargs : PA X [a, b] _ := pa_cons ha (pa_cons hb pa_nil hs2) hs1
  refine Call_ (ld_blt I hgL hmL (by decide +kernel : bootBuiltins "list" = some (.type "list")) (PyProof.Rows.callWith_type1 ?_ hs hpl))
  rw [hs]
  refine Calls.spliced_cons ?_
  refine Call_ (ld_blt I hgZ hmZ PyProof.Rows.boot_zip (PyProof.Rows.callWith_type1 (thn (hargs.run p3 pins s σ H (fun vs H1 => ∃ l t xs ys, vs = [V.ref l, .ref t] ∧ Ex H H1 ∧ H1 l = some (.lst xs) ∧ Fts X.K H1 ds xs ∧ SqT X.K H1 t ys ∧ Fts X.K H1 es ys) I ⟨E, fun l xs H1 e1 h1 f1 => ⟨E.mono e1, fun u H2 e2 f2 => ?_⟩⟩) fun us s1 ⟨vs, H1, I1, r1, l, t, xs, ys, ev, e1, hx, fx, ht, fy⟩ => ?_) hs1 hpl2))
  · obtain ⟨t, ys, rfl, sy, fy⟩ := f2
    exact ⟨l, t, xs, ys, rfl, e1.trans e2, e2 _ _ h1, f1.mono (Ex.tp e2), sy, fy⟩
  subst ev
  cases r1 with
  | cons r rr =>
  cases rr with
  | cons r' rr =>
  cases rr
  cases r
  cases r'
  obtain ⟨its, rv, pl, _⟩ := I1.list (SqL.of hx)
  obtain ⟨its2, rv2, pt, _⟩ := I1.tuple ht
  have lx : xs.length = ds.length := fx.len
  have ly : ys.length = es.length := fy.len
  have li : its.length = ds.length := rv.length.symm.trans lx
  have li2 : its2.length = es.length := rv2.length.symm.trans ly
  obtain ⟨ot, hot, _⟩ := id pt
  have lt1 : l < s1.heap.objs.size := pl.lt
  have lt2 : t < s1.heap.objs.size := Heap.lt_size hot
  refine Gz.call_zip pl.isList pt fun g z hq hgs kp => ?_
  refine Calls.spliced_nil ?_
  refine Gz.call_list_zip (n := s1.heap.objs.size) (I1.ok.hd hc) lt1 lt2 (by rw [List.size_toArray, List.size_toArray]; omega) (by rw [List.size_toArray]; omega) (by rw [List.size_toArray, li, sizeLine_eq]; omega) z hq hgs fun g2 acc c ts keep hS hlen hM hacc => ?_
  have hlen' : ts.length = ds.length := by simpa [li] using hlen
  have kk : ∀ b o, s1.heap.get? b = some o → g2.get? b = some o := fun b o q => keep b o (Heap.lt_size q) (kp b o q)
  have fr : ∀ {b : Nat}, s1.heap.objs.size ≤ b → H1 b = none := fun h => I1.hok.fresh h
  have hSn : s1.heap.objs.size + 5 ∉ ts := fun m => by
    have := hM.above _ m
    omega
  have tn : ∀ b, b ∈ ts → H1 b = none := fun b m => fr (by have := hM.above b m; omega)
  have x1 : Ex H1 (layZ H1 ts xs ys) := fun b o e => by
    rw [layZ_off fun m => by rw [tn b m] at e; cases e]
    exact e
  have hSH : layZ H1 ts xs ys (s1.heap.objs.size + 5) = none := by
    rw [layZ_off hSn]
    exact fr (Nat.le_add_right _ _)
  have x2 : Ex (layZ H1 ts xs ys) (upd (layZ H1 ts xs ys) (s1.heap.objs.size + 5) (.lst (ts.map V.ref))) := Ex.new hSH
  have x12 := x1.trans x2
  have I2 : Inv X pins σ (upd (layZ H1 ts xs ys) (s1.heap.objs.size + 5) (.lst (ts.map V.ref))) { s1 with heap := g2 } := laidN (t' := s1.toks) I1 kk x12 fun b o e => by
    by_cases hb : b = s1.heap.objs.size + 5
    · subst hb
      rw [upd_same] at e
      cases e
      refine .inr ⟨Nat.le_add_right _ _, by rw [List.length_map, hlen', sizeLine_eq]; omega, ts.map Value.ref, c, vals_refs ts, ?_⟩
      rw [← hacc]
      exact hS
    · rw [upd_ne hb] at e
      by_cases hm : b ∈ ts
      · obtain ⟨j, x, y, hj, ex, ey, rfl⟩ := layZ_new hM.rise (by omega) (by omega) e hm
        obtain ⟨u, v, eu, ev, hp⟩ := hM.pairs j b hj
        obtain ⟨u2, hu2, ru⟩ := rv.get ex
        obtain ⟨v2, hv2, rv3⟩ := rv2.get ey
        have e1 : u2 = u := by
          have : its[j]? = some u := by simpa using eu
          rw [hu2] at this
          exact Option.some.inj this
        have e2 : v2 = v := by
          have : its2[j]? = some v := by simpa using ev
          rw [hv2] at this
          exact Option.some.inj this
        subst e1 e2
        refine .inr ⟨by have := hM.above b hm; omega, by show 2 ≤ sizeLine; decide, [u2, v2], .cons ru (.cons rv3 .nil), ⟨_, hp, rfl, _, rfl⟩⟩
      · rw [layZ_off hm] at e
        exact .inl e
  refine ⟨.ref (s1.heap.objs.size + 5), _, I2, rfl, q _ (ts.map V.ref) _ ?_ (e1.trans x12) upd_same ?_⟩
  · exact fresh_back e1 (fr (Nat.le_add_right _ _))
  · refine fts_pairs (fx.mono (Ex.tp x12)) (fy.mono (Ex.tp x12)) hlen' hl fun j t2 x y h1 h2 h3 => ?_
    rw [upd_ne fun z => hSn (by rw [← z]; exact List.mem_of_getElem? h1)]
    exact layZ_at hM.rise h1 h2 h3
end
end Gk
end

section
set_option linter.all false
set_option maxRecDepth 100000
set_option maxHeartbeats 2000000
/-! != of two instances whose class has an own == alone -/
namespace Gq
open PySem PySem.W
section
variable {prog : Program} {w : World} {A : Around} {E : Value → Shared → Prop} {s : Shared} {K : Frag} {x C f : Addr} {ox : Obj} {od : Option Obj} {name : Str} {b : Value}
theorem ifBound_B {M : Model} {args : List Value} {id : String} {Q : Option Value → Shared → Prop} (X : K.In s.heap) (I : InstAt s.heap x ox C od) (hs : findIn K (.ref C) name = some (some (.builtin id))) (hb : bindSpecial (.builtin id) (.ref x) = pure (.builtin id, [.ref x]))
    (h : wpAny M A (call (.builtin id) (.ref x :: args)) (fun v => Q (some v)) E s) : wpAny M A (callSpecialIfBound? (.ref x) name args) Q E s := by
  simp only [callSpecialIfBound?, bindSpecialIfBound?]
  refine wpAny_holding (wpAny_bind (wpAny_bind (wpAny_bind (I.type.here ((looks_findIn X hs).here ?_)))))
  refine wpAny_bind (wpAny_askSetting (wpAny_ite ?_))
  have fin : wpAny M A (call (.builtin id) ([.ref x] ++ args) >>= fun v => pure (some v)) Q E s := wpAny_bind (wpAny_mono h (fun v s' h' => wpAny_pure h') fun _ _ h' => h')
  rw [hb]
  split
  · exact wpAny_bind (wpAny_pure (wpAny_pure (by exact fin)))
  · exact wpAny_tryCatch (wpAny_bind (wpAny_pure (wpAny_pure (by exact fin))))
theorem obj_ne (X : K.In s.heap) (I : InstAt s.heap x ox C od) (he : findIn K (.ref C) "__eq__" = some (some (.ref f))) (hf : isFn K (.ref f) = true) (hu : A.units < cLine) {Q : Fin → Shared → Prop}
    (h : wpAny (model prog w) A (call (.ref f) [.ref x, b]) (fun v s' => v = .bool true ∧ Q (.done (.ret (.bool false))) s') E s) : wpAny (model prog w) A (Builtin.«object.__ne__» ⟨[.ref x, b], []⟩) Q E s := by
  unfold Builtin.«object.__ne__»
  refine wpAny_bind (m := slotArgs "__ne__" 1 ⟨[.ref x, b], []⟩) (wpAny_pure ?_)
  refine wpAny_bind (wpAny_cRoomFor hu ?_)
  refine wpAny_bind (ifBound_K (args := [b]) X I he hf (wpAny_mono h (fun v s' q => ?_) fun _ _ e => e))
  obtain ⟨rfl, q⟩ := q
  exact wpAny_bind (wpAny_truthy_bool (wpAny_pure q))
theorem ne_own {Q : Value → Shared → Prop} (X : K.In s.heap) (I : InstAt s.heap x ox C od) (hb : Looks (model prog w) s.heap (typeOf b) (.ref C)) (hn : findIn K (.ref C) "__ne__" = some (some (.builtin "object.__ne__"))) (he : findIn K (.ref C) "__eq__" = some (some (.ref f))) (hf : isFn K (.ref f) = true)
    (ho : subIn K (.ref C) (.type "object") = some true) (hu : A.units + 64 < cLine) (h : wpAny (model prog w) A.in1 (call (.ref f) [.ref x, b]) (fun v s' => v = .bool true ∧ Q (.bool false) s') E s) : wpAny (model prog w) A (richCompare .NotEq (.ref x) b) Q E s := by
  have sub : Looks (model prog w) s.heap (isInstance (.ref x) (.type "object")) true := I.type.andThen (looks_subIn X ho)
  have one : wpAny (model prog w) A (tryCompare (.ref x) "__ne__" b) (fun r s' => ∃ v, r = some v ∧ Q v s') E s := by
    simp only [tryCompare]
    refine wpAny_bind (ifBound_B X I hn (F.cmp_object.ne.bind _) (wpAny_call (codeAny_call_builtin F.cmp_object.ne.plain F.cmpEntry_ne (check_slot F.cmpKind_ne F.cmpSplit_ne sub (F.cmpArgs_ne _ _) ?_))))
    refine obj_ne (A := A.in1) X I he hf (by show A.units + 1 < cLine; omega) (wpAny_mono h (fun v s' q => ?_) fun _ _ e => e)
    obtain ⟨rfl, q⟩ := q
    exact ⟨rfl, wpAny_pure ⟨_, rfl, q⟩⟩
  unfold richCompare
  simp only [oneThing_ref]
  refine wpAny_holding (wpAny_bind (wpAny_cRoomFor (by omega) ?_))
  rw [cmpInfo_NotEq]
  dsimp only
  refine wpAny_bind (I.type.here (wpAny_bind (hb.here ?_)))
  rw [show (Value.ref C != Value.ref C) = false from by simp]
  simp only [Bool.false_eq_true, if_false]
  refine wpAny_bind (wpAny_pure ?_)
  simp only [Bool.false_eq_true, if_false]
  refine wpAny_bind (wpAny_mono one (fun r s' z => ?_) fun _ _ e => e)
  obtain ⟨v, rfl, q⟩ := z
  exact wpAny_pure q
end
end Gq
end

section
set_option linter.all false
set_option maxRecDepth 100000
namespace Gk
open PySem PySem.Spec PyProof.Rows L2 Evl
/-! ## standing, ==, != of posts -/
structure Pz (K : PySem.W.Frag) (mg : Str → Option Value) : Prop extends Px K mg where
  ne : PySem.W.findIn K (.ref PC) "__ne__" = some (some (.builtin "object.__ne__"))
  ob : PySem.W.subIn K (.ref PC) (.type "object") = some true
  kit : PySem.W.kitOne K (.ref PC) (.ref PC) = some true
  cl : PySem.W.findIn K (.ref PC) "__class__" = some (some (.builtin "object.__class__"))
  gs : PySem.W.specialIn K (.builtin "object.__class__") "__get__" = some (some (.builtin "getset_descriptor.__get__"))
  tk : PySem.W.takesIn K (.builtin "object.__class__") = some true
  mo : PySem.W.mroIn K PC (.type "object") = some true
abbrev PV.nos (v : PV) : List PyData := v.tl.map fun t => .int t.no
abbrev PV.stand (v : PV) : List PyData := pairs v.nos (v.tels.map dTel)
theorem sh_pairs {n : Nat} : ∀ {as bs : List PyData}, (∀ a ∈ as, sh n a = true) → (∀ b ∈ bs, sh n b = true) → ∀ d ∈ pairs as bs, sh (n + 1) d = true
  | [], _, _, _, d, h => by simp [pairs] at h
  | _ :: _, [], _, _, d, h => by simp [pairs] at h
  | a :: as, b :: bs, ha, hb, d, h => by
    rcases List.mem_cons.mp h with rfl | h
    · exact sh_two (ha _ (List.mem_cons_self ..)) (hb _ (List.mem_cons_self ..))
    · exact sh_pairs (fun x hx => ha x (List.mem_cons_of_mem _ hx)) (fun x hx => hb x (List.mem_cons_of_mem _ hx)) d h
theorem sh_tel {t : Tel} {n : Nat} : sh (n + 2) (dTel t) = true := sh_tag sh_int sh_int sh_dO sh_dO
theorem sh_stand {v : PV} : sh 9 (.list v.stand) = true := sh_lst (n := 8) (sh_pairs (n := 7) (fun a ha => by
  obtain ⟨t, _, rfl⟩ := List.mem_map.mp ha
  exact sh_int) fun b hb => by
  obtain ⟨t, _, rfl⟩ := List.mem_map.mp hb
  exact sh_tel)
theorem sh_clk {c : Clk} {n : Nat} : sh (n + 4) (dClk c) = true := sh_two sh_dP (sh_map fun _ _ => sh_set)
theorem sh_clks {cs : List Clk} : sh 9 (dClks cs) = true := sh_map (n := 8) fun _ _ => sh_clk
structure StOk (v : PV) : Prop where
  cs : Clks v.cs
  tl : ∀ t ∈ v.tl, ToldOk t
  len : v.tl.length ≤ 16
  some_ : v.tl ≠ []
section
variable {P : Program} {w : World} {K : PySem.W.Frag} {mg : Str → Option Value} {base : Heap}
inductive R_standing : PSt → List PyData → Res → Prop
  | mk {v : PV} {l : Addr} (h : StOk v) : R_standing (v.st l) [] (.lst v.stand)
theorem sc_Post_standing : FnScope ["self", "numbers", "one"] ["self"] (defScope s_Post_standing) := ⟨rfl, rfl, rfl, by decide +kernel, rfl, by decide +kernel, by decide +kernel⟩
theorem fm_standing (T : Px K mg) : FnM P w K mg base 7 "standing" ["self"] [] (spM K R_standing) := by
  refine FnM.mk_ T m_Post_standing rfl (by decide) (fun _ _ _ _ _ _ us hl => match us, hl with | [_], _ => rfl) fun fd F => fn_bodyM F sc_Post_standing (by rintro _ _ _ ⟨⟩; rfl) fun cdv A outer s H E hr a st ds r hR => ?_
  cases hR with
  | @mk v l h =>
    have hl := h.len
    have h0 : v.tl.length ≠ 0 := fun z => h.some_ (List.length_eq_zero_iff.mp z)
    refine sds_cons (sd_asgLc (out := v.nos) (own := [("one", 2)]) 1 (lc_map dTold v.tl (fun t => .int t.no) (fun x hx => ⟨_, (fun _ _ _ _ _ => (gd_name 2 sc_Post_standing.nd)), (fun _ _ _ _ _ => qs_nil), fun _ _ _ _ _ _ => (pd_ix (pd_var 2) pd_int)⟩) (by omega) (id_tup (pd_told (s := v.st l) T 0))) sc_Post_standing.nd (blkOk_by rfl) (fun l1 => ?_) rfl)
    exact sds_cons (sd_retL (pl_listzip (pr_var 1 (hp := List.mem_cons_self ..)) (pd_meth (s := v.st l) (ds := [dClks v.cs, dTolds v.tl]) [] T 0 (fm_taken_back T) (fun _ => rfl) hr (by decide) (pds_cons (pd_clocks (s := v.st l) T 0) (pds_cons (pd_told (s := v.st l) T 0) pds_nil)) (.mk h.cs h.tl h.len)) (by rw [List.length_map, List.length_map, List.length_map]) (by rw [List.length_map]; exact h0) (by rw [List.length_map]; omega) rfl T.list T.zip) rfl)
end
/-- two posts that stand alike -/
def SameP (K : PySem.W.Frag) : Addr → Addr → Hp → Prop := fun a b H => ∃ (v u : PV) (l1 l2 : Addr), u.cs = v.cs ∧ u.tl = v.tl ∧ StOk v ∧ Ins K H a PC (v.st l1) ∧ Ins K H b PC (u.st l2)
section
variable {P : Program} {w : World} {K : PySem.W.Frag} {mg : Str → Option Value} {base : Heap}
theorem sc_Post_eq : FnScope ["self", "other"] ["self", "other"] (defScope s_Post_eq) := ⟨rfl, rfl, rfl, by decide +kernel, rfl, by decide +kernel, by decide +kernel⟩
theorem pd_isP {X : Cx} {G : List Slot} {D : Lists} {a : Addr} {s : PSt} {x : Str} {p p2 pn pos : Pos} (T : Pz X.K X.mg) (i : Nat) (h : G[i]? = some (.ins a PC s) := by rfl) (hN : X.N[i]? = some x := by rfl) (hv : Vis X.env.scope x := by first | exact Or.inl rfl | exact Or.inr (Or.inl rfl) | exact Or.inr (Or.inr rfl)) (hd : (x == ("__debug__" : Str)) = false := by decide) (hcd : (x == ("__classdict__" : Str)) = false := by decide)
    (hg : Gl X "isinstance" := by rfl) (hgP : Gl X "Post" := by rfl) (hs : starEach [.Name x p, .Name "Post" p2] X.env = (false, eval (.Name x p) X.env) :: starEach [.Name "Post" p2] X.env := by rfl) : PD X G D (.Call (.Name "isinstance" pn) [.Name x p, .Name "Post" p2] [] pos) (.bool true) :=
  PE.by_ (pe_callB call_isi hg T.isinstance (by decide +kernel) (pa_cons (pe_ins i h hN hv hd hcd) (pa_cons (pe_glob (v := .ref PC) hgP (T.at_ g_Post) rfl) pa_nil (by rfl)) hs) (by decide) (by decide) hs (by rfl)) fun t H Q ⟨E, r⟩ => ⟨E, by
    obtain ⟨dx, v1, v2, h1, _, _⟩ := (E.ins h).2
    exact ⟨.ref a, .ref PC, _, _, true, rfl, ClsV.own PC, .base (.ins h1 T.cls T.cl T.gs T.tk T.mo), T.kit, r _ H (Ex.refl H) rfl⟩⟩
theorem fm_eq (T : Pz K mg) : FnM P w K mg base 8 "__eq__" ["self", "other"] [] (spEq (SameP K)) := by
  refine FnM.mk_ T.toPx m_Post_eq rfl (by decide) (fun _ _ _ _ _ _ us hl => match us, hl with | [_, _], _ => rfl) fun fd F => FunD.ok F sc_Post_eq (fun vs H Q E h => ?_) (fun cdv A outer s H vs Q E hr h => ?_)
  · obtain ⟨a, b, rfl, _⟩ := h
    rfl
  · obtain ⟨a, b, rfl, ⟨v, u, l1, l2, e1, e2, ok, i1, i2⟩, q⟩ := h
    obtain ⟨uc, ut, un⟩ := u
    have e1' : uc = v.cs := e1
    have e2' : ut = v.tl := e2
    subst e1' e2'
    have T0 := T.toPx
    have ok2 : StOk (⟨v.cs, v.tl, un⟩ : PV) := ⟨ok.cs, ok.tl, ok.len, ok.some_⟩
    have hb : SDs (cxOf CX0 P w K mg base ["self", "other"] d_Post_eq.qual (defScope d_Post_eq.st) d_Post_eq.f cdv A outer s H E).nox [] [.ins a PC (v.st l1), .ins b PC ((⟨v.cs, v.tl, un⟩ : PV).st l2)] [] (defBody d_Post_eq.st) (fun _ _ _ => False) (fun r => r = .dat (.bool true)) := by
      refine sds_cons (sd_if (pq_not (pq_val (pd_isP T 1))) (fun h => by cases h) (fun _ => sds_nil ?_))
      exact sds_cons (sd_ret (pd_and (pd_cmp (cd_sameE hr sh_clks (pd_clocks (s := v.st l1) T0 0) (pd_clocks (s := (⟨v.cs, v.tl, un⟩ : PV).st l2) T0 1))) fun _ => (pd_one (pd_cmp (cd_sameLE (ds := v.stand) hr sh_stand (pl_r (pl_meth0 (s := v.st l1) T0 0 (fm_standing T0) hr (by decide) (.mk ok))) (pl_r (pl_meth0 (s := (⟨v.cs, v.tl, un⟩ : PV).st l2) T0 1 (fm_standing T0) hr (by decide) (.mk ok2))))))) rfl)
    refine ⟨_, (hb H).nox, Ex.refl H, fun a z => (nomatch z), ⟨⟨_, _, rfl, ⟨rfl, i1⟩, _, _, rfl, ⟨rfl, i2⟩, True.intro⟩, List.nodup_nil, fun p hp => (nomatch hp)⟩, fun M' G' D' t' H' e1 _ _ _ z => z.elim, fun v H' r' e1 ok z => ?_⟩
    subst z
    have ev : v = .bl true := ok
    subst ev
    exact q H' e1
end
section
variable {X : Cx} {n : Nat} {G : List Slot} {D : Lists} {a b : Addr} {v : PV} {l1 l2 : Addr} {x y : Str} {p p2 pos : Pos}
def rNeP (K : PySem.W.Frag) : R2 := fun x y H Q => ∃ a b, x = .ref a ∧ y = .ref b ∧ SameP K a b H ∧ ∀ H', Ex H H' → Q (.bl false) H'
theorem op_neP (T : Pz X.K X.mg) (hr : Room (n + 1) X.A) (hn : 8 ≤ n) : OpR X (compareOp .NotEq) (rNeP X.K) := by
  intro pins s σ H x y u w Q I rx ry hq
  obtain ⟨a, b, rfl, rfl, sm, q⟩ := hq
  cases rx
  cases ry
  show wpAny (model X.prog X.w) X.A (richCompare .NotEq (.ref a) (.ref b)) (EP X pins σ Q) X.xe s
  obtain ⟨f, fd, dd, hM, F, hB, hV⟩ := (fm_eq (P := X.prog) (w := X.w) (base := X.base) T).ex
  obtain ⟨v, u, l1, l2, e1, e2, ok, i1, i2⟩ := id sm
  obtain ⟨dx, v1, v2, h1, _, _⟩ := i1
  obtain ⟨dy, v3, v4, h2, _, _⟩ := i2
  obtain ⟨mA, J, _⟩ := ins_get I.hok h1
  obtain ⟨mB, J', _⟩ := ins_get I.hok h2
  obtain ⟨od, J, _⟩ := J.look
  obtain ⟨od', J', _⟩ := J'.look
  cases hV
  refine Gq.ne_own I.kIn J J'.type T.ne hM.at_ hM.fn T.ob hr.units ?_
  have hsp : spEq (SameP X.K) [.ref a, .ref b] H (fun v H' => v = .bl true ∧ Ex H H') E0 := ⟨a, b, rfl, sm, fun H' e => ⟨rfl, e⟩⟩
  have e0 : Env0 X.prog X.w X.K X.mg X.base X.A.in1 X.stack s H := by
    have e := I.env0
    exact ⟨e.frames, e.mod, e.bs, e.bsz, e.funs, e.frf, e.hok, e.bare⟩
  have hl := F.len _ _ _ _ hsp
  have r2 : Vals [V.ref a, V.ref b] [Value.ref a, Value.ref b] := .cons rfl (.cons rfl .nil)
  refine wpAny_call (codeAny_mono (F.run X.A.in1 X.stack s H ⟨[.ref a, .ref b], []⟩ [.ref a, .ref b] [.ref a, .ref b] _ E0 (hr.in1.mono hn) e0 (by
    have := hB s [.ref a, .ref b] I.kIn (by simpa using hl)
    simpa using this) r2 hsp) fun r s' hq => ?_)
  cases r with
  | error e => exact pass0 pins σ H s e s' I hq
  | ok fl =>
    cases fl with
    | ret w =>
      obtain ⟨z, H', I', rz, ez, ex⟩ := I.after hq
      subst ez
      cases rz
      exact ⟨rfl, .bl false, H', I', rfl, q H' ex⟩
    | next => exact False.elim hq
    | brk => exact False.elim hq
    | cont => exact False.elim hq
theorem pq_neP (T : Pz X.K X.mg) (hr : Room (n + 1) X.A) (hn : 8 ≤ n) (i j : Nat) (ok : StOk v) (h : G[i]? = some (.ins a PC (v.st l1)) := by rfl) (h2 : G[j]? = some (.ins b PC (v.st l2)) := by rfl) (hN : X.N[i]? = some x := by rfl) (hN2 : X.N[j]? = some y := by rfl)
    (hv : Vis X.env.scope x := by first | exact Or.inl rfl | exact Or.inr (Or.inl rfl) | exact Or.inr (Or.inr rfl)) (hv2 : Vis X.env.scope y := by first | exact Or.inl rfl | exact Or.inr (Or.inl rfl) | exact Or.inr (Or.inr rfl)) (hd : (x == ("__debug__" : Str)) = false := by decide) (hcd : (x == ("__classdict__" : Str)) = false := by decide) (hd2 : (y == ("__debug__" : Str)) = false := by decide) (hcd2 : (y == ("__classdict__" : Str)) = false := by decide)
    (hm : behindInMarks .NotEq (.Name y p2) = false := by first | exact nomark _ | rfl) : PQ X G D (.Compare (.Name x p) [.NotEq] [.Name y p2] pos) false :=
  PT.by_ (pt_cmpR (op_neP T hr hn) (pe_ins i h hN hv hd hcd) (pe_ins (D := D) j h2 hN2 hv2 hd2 hcd2) hm) fun t H Q ⟨E, q⟩ => ⟨E, E, a, b, rfl, rfl, ⟨v, v, l1, l2, rfl, rfl, ok, (E.ins h).2, (E.ins h2).2⟩, fun H' e => ⟨false, rfl, q H' e⟩⟩
end
end Gk
end

section
set_option linter.all false
set_option maxRecDepth 100000
namespace Gk
open PySem PySem.Spec PyProof.Rows L2 Evl
/-! ## expressions, tests, statements that change posts: from what stands to what stands -/
abbrev Fam := List Slot → Lists → Prop
def Stt (K : PySem.W.Frag) (F : Fam) (t : L2.St) (H : Hp) : Prop := ∃ G D, F G D ∧ EnvE K G D t H
def tXE (K : PySem.W.Frag) (A : List Addr) (F : Fam) (d : PyData) (F' : Fam) : TE := fun t H Q => Stt K F t H ∧ ∀ v H', Stp A H H' → Stt K F' t H' → Ft K H' d v → Q v H'
def tXQ (K : PySem.W.Frag) (A : List Addr) (F : Fam) (b : Bool) (F' : Fam) : TT := fun t H Q => Stt K F t H ∧ ∀ H', Stp A H H' → Stt K F' t H' → Q b H'
abbrev XE (X : Cx) (A : List Addr) (F : Fam) (e : Expr) (d : PyData) (F' : Fam) : Prop := PE X e (tXE X.K A F d F')
abbrev XQ (X : Cx) (A : List Addr) (F : Fam) (e : Expr) (b : Bool) (F' : Fam) : Prop := PT X e (tXQ X.K A F b F')
abbrev XW (X : Cx) (A : List Addr) (F : Fam) (e : Expr) (b : Bool) (F' : Fam) : Prop := PW X e (tXQ X.K A F b F')
abbrev SXs (X : Cx) (A : List Addr) (F : Fam) (sts : List Stmt) : Prop := ∀ H0, PSs X sts (fun En t H => Stp A H0 H ∧ Stt X.K F t H ∧ ∀ H', Stp A H0 H' → En.rt (.bl true) H')
theorem Stp.wide {A B : List Addr} {H H' : Hp} (h : Stp A H H') (s : ∀ x ∈ A, x ∈ B) : Stp B H H' := fun b o e n => h b o e fun m => n (s b m)
theorem Stp.toEx {H H' : Hp} (h : Stp [] H H') : Ex H H' := fun b o e => h b o e fun m => nomatch m
section
variable {X : Cx} {A : List Addr} {F F1 F2 F' : Fam} {e a b : Expr} {d : PyData} {q q2 : Bool} {i : Int} {n : Nat} {pos p2 : Pos} {rest s1 : List Stmt} {es : List Expr}
theorem xe_pd (h : ∀ G D, F G D → PD X G D e d) : XE X A F e d F := by
  have hu : PE X e (fun t H Q => ∃ G D, F G D ∧ tD X.K G D d t H Q) := ⟨fun p s c H Q I ⟨G, D, f, z⟩ => (h G D f).run p s c H Q I z⟩
  exact PE.by_ hu fun t H Q ⟨⟨G, D, f, E⟩, r⟩ => ⟨G, D, f, E, fun v H' e1 fv => r v H' (Stp.ex e1) ⟨G, D, f, E.mono e1⟩ fv⟩
theorem xq_pq (h : ∀ G D, F G D → PQ X G D e q) : XQ X A F e q F := by
  have hu : PT X e (fun t H Q => ∃ G D, F G D ∧ tQ X.K G D q t H Q) := ⟨fun p s c H Q I ⟨G, D, f, z⟩ => (h G D f).run p s c H Q I z⟩
  exact PT.by_ hu fun t H Q ⟨⟨G, D, f, E⟩, r⟩ => ⟨G, D, f, E, fun H' e1 => r H' (Stp.ex e1) ⟨G, D, f, E.mono e1⟩⟩
theorem xe_call (h : ∀ G D, F G D → ∃ (A' : List Addr) (G' : List Slot) (D' : PyData → Lists), (∀ x ∈ A', x ∈ A) ∧ (∀ z, F' G' (D' z)) ∧ PE X e (tX X.K G D A' G' D' d)) : XE X A F e d F' := by
  have hu : PE X e (fun t H Q => ∃ A' G D G' D', (∀ x ∈ A', x ∈ A) ∧ (∀ z, F' G' (D' z)) ∧ PE X e (tX X.K G D A' G' D' d) ∧ tX X.K G D A' G' D' d t H Q) := ⟨fun p s c H Q I ⟨A', G, D, G', D', _, _, k, z⟩ => k.run p s c H Q I z⟩
  refine PE.by_ hu fun t H Q ⟨⟨G, D, f, E⟩, r⟩ => ?_
  obtain ⟨A', G', D', h1, h2, h3⟩ := h G D f
  exact ⟨A', G, D, G', D', h1, h2, h3, E, fun z v H' st E' fv => r v H' (st.wide h1) ⟨G', D' z, h2 z, E'⟩ fv⟩
theorem xq_val (h : XE X A F e (.bool q) F') (he : ∀ whole, isTrue e X.env whole = (do let v ← whole; standAt e.pos; holding [v] (truthy v)) := by intro _; rfl) : XQ X A F e q F' :=
  PT.by_ (pt_val h he) fun t H Q ⟨E, r⟩ => ⟨E, fun v H1 s1 E1 f => ⟨q, f, r H1 s1 E1⟩⟩
/-- two calls that tell the same number -/
theorem xq_ne (hr : Room n X.A) (ha : XE X A F a (.int i) F1) (hb : XE X A F1 b (.int i) F2) (hm : behindInMarks .NotEq b = false := by first | exact nomark _ | rfl) : XQ X A F (.Compare a [.NotEq] [b] pos) false F2 :=
  PT.by_ (pt_cmpR (op_neD hr.units) ha hb hm) fun t H Q ⟨E, r⟩ => ⟨E, fun v H1 s1 E1 f1 => ⟨E1, fun u H2 s2 E2 f2 => by
    have ev : v = .int i := f1
    have eu : u = .int i := f2
    subst ev eu
    refine ⟨.int i, .int i, .int i, .int i, rfl, rfl, ?_⟩
    refine ⟨false, ?_, r H2 (s1.trans s2) E2⟩
    have : PyData.eqv (.int i) (.int i) = true := beq_self_eq_true i
    rw [this] <;> rfl⟩⟩
theorem xq_notN {k : Nat} (ha : XE X A F a .none F1) (hm : behindInMarks .IsNot (.Constant .none k p2) = false := by first | exact nomark _ | rfl) : XQ X A F (.Compare a [.IsNot] [.Constant .none k p2] pos) false F1 :=
  PT.by_ (pt_cmpR op_notN ha pe_non hm) fun t H Q ⟨E, r⟩ => ⟨E, fun v H1 s1 E1 f1 => ⟨rfl, false, by rw [ft_non f1] <;> rfl, r H1 s1 E1⟩⟩
theorem xe_isN {k : Nat} (ha : XE X A F a .none F1) (hm : behindInMarks .Is (.Constant .none k p2) = false := by first | exact nomark _ | rfl) : XE X A F (.Compare a [.Is] [.Constant .none k p2] pos) (.bool true) F1 :=
  PE.by_ (pe_cmpR op_isN ha pe_non hm) fun t H Q ⟨E, r⟩ => ⟨E, fun v H1 s1 E1 f1 => ⟨rfl, by rw [ft_non f1]; exact r _ H1 s1 E1 rfl⟩⟩
theorem xw_or1 (h : XQ X A F a q F1) : XW X A F (.BoolOp .Or [a] pos) q F1 := pw_or1 h
theorem xw_or (ha : XQ X A F a false F1) (hr : XW X A F1 (.BoolOp .Or (b :: es) pos) q F2) : XW X A F (.BoolOp .Or (a :: b :: es) pos) q F2 :=
  PW.by_ (pw_or ha hr) fun t H Q ⟨E, r⟩ => ⟨E, fun H1 s1 E1 => iteF ⟨E1, fun H2 s2 E2 => r H2 (s1.trans s2) E2⟩⟩
theorem xq_w (h : XW X A F e q F1) : XQ X A F e q F1 := PW.pt h
theorem xe_and (ha : XE X A F a (.bool true) F1) (hb : XE X A F1 (.BoolOp .And (b :: es) pos) (.bool q) F2) : XE X A F (.BoolOp .And (a :: b :: es) pos) (.bool q) F2 :=
  PE.by_ (pe_and ha hb) fun t H Q ⟨E, r⟩ => ⟨E, fun v H1 s1 E1 f => ⟨true, f, iteT ⟨E1, fun u H2 s2 E2 f2 => r u H2 (s1.trans s2) E2 f2⟩⟩⟩
theorem xe_one {op} (h : XE X A F a d F1) : XE X A F (.BoolOp op [a] pos) d F1 := pe_one h
theorem sxs_if0 {c : Expr} (h : XQ X A F c false F1) (hr : SXs X A F1 rest) : SXs X A F (.If c s1 [] pos :: rest) := fun H0 =>
  PSs.by_ (pss_cons (ps_if h pss_never pss_nil) (hr H0)) fun En t H ⟨x0, E, r⟩ => ⟨E, fun H1 s1 E1 => iteF ⟨x0.trans s1, E1, r⟩⟩
theorem sxs_ret (h : XE X A F e (.bool true) F1) : SXs X A F [.Return (some e) pos] := fun H0 =>
  PSs.by_ (pss_one (ps_ret h)) fun En t H ⟨x0, E, r⟩ => ⟨E, fun v H1 s1 E1 f => by
    have ev : v = .bl true := f
    subst ev
    exact r H1 (x0.trans s1)⟩
end
end Gk
end

section
set_option linter.all false
set_option maxRecDepth 100000
set_option exponentiation.threshold 10000
namespace Gk
open PySem PySem.Spec PyProof.Rows L2 Evl
/-! ## the law's posts, plain -/
def gsL : List Rat := [⟨0, 1, by decide, by decide⟩, ⟨1, 3, by decide, by decide⟩, ⟨-1, 2, by decide, by decide⟩, ⟨0, 1, by decide, by decide⟩, ⟨2, 1, by decide, by decide⟩, ⟨5, 7, by decide, by decide⟩]
def jmp : Rat := ⟨1, 5, by decide, by decide⟩
theorem gs_ok : ∀ g ∈ gsL, -12 ≤ g ∧ g ≤ 12 ∧ Sk 8 g := by
  intro g hg
  simp only [gsL, List.mem_cons, List.not_mem_nil, or_false] at hg
  rcases hg with rfl | rfl | rfl | rfl | rfl | rfl <;> exact ⟨by decide, by decide, by decide, by decide⟩
theorem gains_l : Gains gsL := ⟨rfl, fun g hg => ⟨(gs_ok g hg).1, (gs_ok g hg).2.1, (gs_ok g hg).2.2.sm (by decide)⟩, by rfl⟩
/-- the law's moment -/
def WhenW (m : Rat) : Prop := ∃ r s : Int, 0 ≤ r ∧ r ≤ 29 ∧ 1 ≤ s ∧ s ≤ 6 ∧ m = Rat.divInt r s
theorem when_sk {m : Rat} (h : WhenW m) : Sk 8 m := by
  obtain ⟨r, s, h1, h2, h3, h4, rfl⟩ := h
  exact sk_divInt (by omega) (by omega) (by omega)
theorem when_0 {m : Rat} (h : WhenW m) : 0 ≤ m := by
  obtain ⟨r, s, h1, h2, h3, h4, rfl⟩ := h
  exact Rat.divInt_nonneg h1 (by omega)
theorem lit_sk {q : Rat} (h : Lit q) : Sk 8 q := by
  obtain ⟨r, s, h1, h2, h3, h4, rfl⟩ := h
  exact sk_divInt (by omega) (by omega) (by omega)
theorem when_gr3 {m : Rat} (h : WhenW m) : Gr Dl Ml (m * (⟨1, 3, by decide, by decide⟩ : Rat)) := by
  obtain ⟨r, s, h1, h2, h3, h4, rfl⟩ := h
  have e : (⟨1, 3, by decide, by decide⟩ : Rat) = Rat.divInt 1 3 := rfl
  rw [e, Rat.divInt_mul_divInt, Int.mul_one]
  have : s = 1 ∨ s = 2 ∨ s = 3 ∨ s = 4 ∨ s = 5 ∨ s = 6 := by omega
  rcases this with rfl | rfl | rfl | rfl | rfl | rfl
  · exact gr_lit (by omega) (by omega) 840 rfl
  · exact gr_lit (by omega) (by omega) 420 rfl
  · exact gr_lit (by omega) (by omega) 280 rfl
  · exact gr_lit (by omega) (by omega) 210 rfl
  · exact gr_lit (by omega) (by omega) 168 rfl
  · exact gr_lit (by omega) (by omega) 140 rfl
theorem when_gr2 {m : Rat} (h : WhenW m) : Gr Dl Ml (m * (⟨-1, 2, by decide, by decide⟩ : Rat)) := by
  obtain ⟨r, s, h1, h2, h3, h4, rfl⟩ := h
  have e : (⟨-1, 2, by decide, by decide⟩ : Rat) = Rat.divInt (-1) 2 := rfl
  rw [e, Rat.divInt_mul_divInt]
  have : s = 1 ∨ s = 2 ∨ s = 3 ∨ s = 4 ∨ s = 5 ∨ s = 6 := by omega
  rcases this with rfl | rfl | rfl | rfl | rfl | rfl
  · exact gr_lit (by omega) (by omega) 1260 rfl
  · exact gr_lit (by omega) (by omega) 630 rfl
  · exact gr_lit (by omega) (by omega) 420 rfl
  · exact gr_lit (by omega) (by omega) 315 rfl
  · exact gr_lit (by omega) (by omega) 252 rfl
  · exact gr_lit (by omega) (by omega) 210 rfl
theorem jmp_gr : Gr Dl Ml jmp := by
  have e : jmp = Rat.divInt 1 5 := rfl
  rw [e]
  exact gr_lit (by omega) (by omega) 504 rfl
theorem drift_no {g m : Rat} : driftD ⟨g, []⟩ m = m * g := by
  show m * g + 0 = m * g
  grind
theorem drift_one {g m j : Rat} : driftD ⟨g, [(m, j)]⟩ m = m * g + j := by
  show m * g + (if m < m then 0 else 0 + j) = m * g + j
  rw [if_neg (by grind)]
  grind
theorem clk_plain {g : Rat} (h : g ∈ gsL) : Clk8 ⟨g, []⟩ := ⟨⟨(gs_ok g h).1, (gs_ok g h).2.1, (gs_ok g h).2.2.mono (by decide), Nat.le_of_ble_eq_true rfl, fun s hs => (by cases hs), rfl⟩, (gs_ok g h).2.2, fun s hs => (by cases hs)⟩
theorem jmp_sk : jmp ≠ 0 ∧ Sk 8 jmp := ⟨by decide, by decide, by decide⟩
theorem clk_set {g m : Rat} (h : g ∈ gsL) (hm : WhenW m) : Clk8 ⟨g, [(m, jmp)]⟩ := ⟨⟨(gs_ok g h).1, (gs_ok g h).2.1, (gs_ok g h).2.2.mono (by decide), Nat.le_of_ble_eq_true rfl, fun s hs => (by
  rw [List.mem_singleton.mp hs]
  exact ⟨when_0 hm, jmp_sk.1, (when_sk hm).mono (by decide), jmp_sk.2.mono (by decide)⟩), rfl⟩, (gs_ok g h).2.2, fun s hs => (by
  rw [List.mem_singleton.mp hs]
  exact jmp_sk.2)⟩
theorem clks_of {cs : List Clk} (h : cs.length = 6) (k : ∀ c ∈ cs, Clk8 c) : Clks cs := ⟨h, fun i => by
  unfold clkAt
  rw [List.getD_eq_getElem?_getD]
  cases e : cs[i]? with
  | none => exact clk0
  | some c => exact k c (List.mem_of_getElem? e)⟩
abbrev csA : List Clk := newCs gsL
abbrev csB (m : Rat) : List Clk := csA.set 1 ⟨(clkAt csA 1).gain, [(m, jmp)]⟩
theorem csA_ok : Clks csA := clks_of rfl fun c hc => by
  obtain ⟨g, hg, rfl⟩ := List.mem_map.mp hc
  exact clk_plain hg
theorem csB_ok {m : Rat} (hm : WhenW m) : Clks (csB m) := clks_of rfl fun c hc => by
  rcases List.mem_or_eq_of_mem_set hc with h | rfl
  · obtain ⟨g, hg, rfl⟩ := List.mem_map.mp h
    exact clk_plain hg
  · exact clk_set (g := ⟨1, 3, by decide, by decide⟩) (List.mem_of_getElem? (i := 1) rfl) hm
def Mp : Nat := 600000
theorem sz_p : Sz Dl Mp := ⟨by decide, Nat.lt_of_lt_of_le (show Dl < 2 ^ 100 by decide) (Nat.pow_le_pow_right (by decide) (by decide)), Nat.lt_of_lt_of_le (show Mp < 2 ^ 100 by decide) (Nat.pow_le_pow_right (by decide) (by decide))⟩
/-- what the drifts of the three clocks are -/
structure Dri (cs : List Clk) (m : Rat) : Prop where
  ok : Clks cs
  d0 : Gr Dl Ml (driftD (clkAt cs 0) m)
  d1 : Gr Dl (2 * Ml) (driftD (clkAt cs 1) m)
  d2 : Gr Dl Ml (driftD (clkAt cs 2) m)
theorem dri_z {m : Rat} : Gr Dl Ml (driftD (⟨⟨0, 1, by decide, by decide⟩, []⟩ : Clk) m) := by
  rw [drift_no]
  have e : m * (⟨0, 1, by decide, by decide⟩ : Rat) = 0 := Rat.mul_zero m
  rw [e]
  exact Gr.zero
theorem dri_A {m : Rat} (hm : WhenW m) : Dri csA m := ⟨csA_ok, dri_z, by
  show Gr Dl (2 * Ml) (driftD (⟨⟨1, 3, by decide, by decide⟩, []⟩ : Clk) m)
  rw [drift_no]
  exact (when_gr3 hm).mono (by decide), by
  show Gr Dl Ml (driftD (⟨⟨-1, 2, by decide, by decide⟩, []⟩ : Clk) m)
  rw [drift_no]
  exact when_gr2 hm⟩
theorem dri_B {m : Rat} (hm : WhenW m) : Dri (csB m) m := ⟨csB_ok hm, dri_z, by
  show Gr Dl (2 * Ml) (driftD (⟨⟨1, 3, by decide, by decide⟩, [(m, jmp)]⟩ : Clk) m)
  rw [drift_one]
  exact ((when_gr3 hm).add jmp_gr).mono (by decide), by
  show Gr Dl Ml (driftD (⟨⟨-1, 2, by decide, by decide⟩, []⟩ : Clk) m)
  rw [drift_no]
  exact when_gr2 hm⟩
abbrev t1 (m e : Rat) : Told := ⟨0, m, 0, 2, none, some e⟩
abbrev t2 (m e : Rat) : Told := ⟨0 + 1, m, 2, 1, some e, none⟩
section
variable {m e : Rat} {cs : List Clk} {n : Int}
theorem told1 (hm : WhenW m) (he : Lit e) : ToldOk (t1 m e) := ⟨(Nat.le_of_ble_eq_true rfl), (Nat.le_of_ble_eq_true rfl), (by decide : (0 : Nat) ≠ 2), when_sk hm, .inr (by simp), (fun a h => by cases h), fun a h => by cases h; exact lit_sk he, fun a b h => by cases h⟩
theorem told2 (hm : WhenW m) (he : Lit e) : ToldOk (t2 m e) := ⟨(Nat.le_of_ble_eq_true rfl), (Nat.le_of_ble_eq_true rfl), (by decide : (2 : Nat) ≠ 1), when_sk hm, .inl (by simp), fun a h => by cases h; exact lit_sk he, (fun a h => by cases h), fun a b _ h => by cases h⟩
theorem tel1 (h : Dri cs m) (he : Lit e) : TelOk Dl Mp (backT cs (t1 m e)) := ⟨(Nat.le_of_ble_eq_true rfl), (Nat.le_of_ble_eq_true rfl), (by decide : (0 : Nat) ≠ 2), .inr (by simp [backT, movO]), (fun a b h => by cases h), (fun a h => by cases h), fun a ha => by
  cases ha
  exact ((lit_gr he).sub (h.d2.sub h.d0)).mono (by decide)⟩
theorem tel2 (h : Dri cs m) (he : Lit e) : TelOk Dl Mp (backT cs (t2 m e)) := ⟨(Nat.le_of_ble_eq_true rfl), (Nat.le_of_ble_eq_true rfl), (by decide : (2 : Nat) ≠ 1), .inl (by simp [backT, movO]), (fun a b _ h => by cases h), (fun a ha => by
  cases ha
  exact ((lit_gr he).sub (h.d1.sub h.d2)).mono (by decide)), fun a h => by cases h⟩
theorem ok1 (h : Dri cs m) (hm : WhenW m) (he : Lit e) : PVOk Dl Mp ⟨cs, [t1 m e], n⟩ := ⟨h.ok, fun t ht => by rw [List.mem_singleton.mp ht]; exact told1 hm he, Nat.le_of_ble_eq_true rfl, sz_p, Nat.lt_of_lt_of_le (show Mp < 2 ^ 100 by decide) (Nat.pow_le_pow_right (by decide) (by decide)), Nat.lt_of_lt_of_le (show Dl < 2 ^ 100 by decide) (Nat.pow_le_pow_right (by decide) (by decide)), ⟨Nat.le_of_ble_eq_true rfl, fun t ht => by
  rw [List.mem_singleton.mp ht]
  exact tel1 h he⟩⟩
theorem ok2 (h : Dri cs m) (hm : WhenW m) (he : Lit e) : PVOk Dl Mp ⟨cs, [t1 m e, t2 m e], n⟩ := by
  refine ⟨h.ok, fun t ht => ?_, Nat.le_of_ble_eq_true rfl, sz_p, Nat.lt_of_lt_of_le (show Mp < 2 ^ 100 by decide) (Nat.pow_le_pow_right (by decide) (by decide)), Nat.lt_of_lt_of_le (show Dl < 2 ^ 100 by decide) (Nat.pow_le_pow_right (by decide) (by decide)), ⟨Nat.le_of_ble_eq_true rfl, fun t ht => ?_⟩⟩
  · rcases List.mem_cons.mp ht with rfl | ht
    · exact told1 hm he
    · rw [List.mem_singleton.mp ht]
      exact told2 hm he
  · have ht' : t ∈ [backT cs (t1 m e), backT cs (t2 m e)] := ht
    rcases List.mem_cons.mp ht' with rfl | ht'
    · exact tel1 h he
    · rw [List.mem_singleton.mp ht']
      exact tel2 h he
def potP (x y : Rat) : Nat → Rat := fun i => if i = 2 then x else if i = 1 then x + y else 0
theorem pot_le (x y : Rat) {s : Step} {k1 k2 : Nat} {g1 g2 : Int} (h : s = ⟨0, 2, x, k1, g1⟩ ∨ s = ⟨1, 2, -y, k2, g2⟩) : potP x y s.other ≤ potP x y s.one + s.long ∧ s.one < 6 ∧ s.other < 6 := by
  rcases h with rfl | rfl
  · refine ⟨?_, (Nat.le_of_ble_eq_true rfl), (Nat.le_of_ble_eq_true rfl)⟩
    show x ≤ 0 + x
    grind
  · refine ⟨?_, (Nat.le_of_ble_eq_true rfl), (Nat.le_of_ble_eq_true rfl)⟩
    show x ≤ (x + y) + -y
    grind
theorem pot1 : ∃ p, Pot (stepsOf (PV.tels ⟨cs, [t1 m e], n⟩)) p := by
  have es : stepsOf (PV.tels ⟨cs, [t1 m e], n⟩) = [⟨0, 2, e - byD cs (t1 m e), 0, 1⟩] := rfl
  rw [es]
  have k : ∀ s ∈ ([⟨0, 2, e - byD cs (t1 m e), 0, 1⟩] : List Step), s = ⟨0, 2, e - byD cs (t1 m e), 0, 1⟩ ∨ s = ⟨1, 2, -0, 0, 0⟩ := fun s hs => .inl (List.mem_singleton.mp hs)
  exact ⟨potP (e - byD cs (t1 m e)) 0, fun s hs => (pot_le _ _ (k s hs)).1, fun s hs => (pot_le _ _ (k s hs)).2.1, fun s hs => (pot_le _ _ (k s hs)).2.2⟩
theorem pot2 : ∃ p, Pot (stepsOf (PV.tels ⟨cs, [t1 m e, t2 m e], n⟩)) p := by
  have es : stepsOf (PV.tels ⟨cs, [t1 m e, t2 m e], n⟩) = [⟨0, 2, e - byD cs (t1 m e), 0, 1⟩, ⟨1, 2, -(e - byD cs (t2 m e)), 1, -1⟩] := rfl
  rw [es]
  have k : ∀ s ∈ ([⟨0, 2, e - byD cs (t1 m e), 0, 1⟩, ⟨1, 2, -(e - byD cs (t2 m e)), 1, -1⟩] : List Step), s = ⟨0, 2, e - byD cs (t1 m e), 0, 1⟩ ∨ s = ⟨1, 2, -(e - byD cs (t2 m e)), 1, -1⟩ := fun s hs => by
    rcases List.mem_cons.mp hs with h | h
    · exact .inl h
    · exact .inr (List.mem_singleton.mp h)
  exact ⟨potP (e - byD cs (t1 m e)) (e - byD cs (t2 m e)), fun s hs => (pot_le _ _ (k s hs)).1, fun s hs => (pot_le _ _ (k s hs)).2.1, fun s hs => (pot_le _ _ (k s hs)).2.2⟩
theorem st2 (h : Dri cs m) (hm : WhenW m) (he : Lit e) : StOk ⟨cs, [t1 m e, t2 m e], n⟩ := ⟨h.ok, (ok2 (n := n) h hm he).tl, Nat.le_of_ble_eq_true rfl, by simp⟩
end
end Gk
end

section
set_option linter.all false
set_option maxRecDepth 100000
namespace Gk
open PySem PySem.Spec PyProof.Rows L2 Evl
abbrev dRates : PyData := .tuple (gsL.map dP)
/-- what stands while the two posts are told -/
def FamP (m e : Rat) (a1 a2 l1 l2 : Addr) (k : Nat) (v1 v2 : PV) : Fam := fun G D => ∃ p1 p2 : List PyData, p1.length ≤ k ∧ p2.length ≤ k ∧ G = [.dat (dP m), .dat (dP e), .dat dRates, .ins a1 PC (v1.st l1), .ins a2 PC (v2.st l2)] ∧ D = [(l1, p1), (l2, p2)]
theorem sh_then {v : PV} {c : Nat} {m : Rat} : sh 9 (thenD v c m) = true := sh_two (n := 8) sh_dO sh_dO
theorem sh_no : sh 9 (.str "no") = true := by decide +kernel
theorem sh_err {v : PV} {c : Nat} {m h : Rat} : sh 9 (errD v c m h) = true := by
  unfold errD
  split
  · exact sh_no
  · exact sh_dP
section
variable {P : Program} {w : World} {K : PySem.W.Frag} {mg : Str → Option Value} {base : Heap}
inductive R_law_posts : List PyData → Res → Prop
  | mk {m e : Rat} (hm : WhenW m) (he : Lit e) : R_law_posts [dP m, dP e] (.dat (.bool true))
theorem sc_law_posts : FnScope ["_law_when", "_law_end", "_law_rates", "_law_post", "_law_beside"] ["_law_when", "_law_end"] (defScope s_law_posts_right) := ⟨rfl, rfl, rfl, by decide +kernel, rfl, by decide +kernel, by decide +kernel⟩
abbrev xP (P : Program) (w : World) (K : PySem.W.Frag) (mg : Str → Option Value) (base : Heap) (cdv : Value) (A : Around) (outer : List Env) (s : Shared) (H : Hp) (E : XK) : Cx := (cxOf CX0 P w K mg base ["_law_when", "_law_end", "_law_rates", "_law_post", "_law_beside"] d_law_posts_right.qual (defScope d_law_posts_right.st) d_law_posts_right.f cdv A outer s H E).nox
abbrev vA : PV := newV gsL
abbrev vB (m e : Rat) : PV := vA.tell m 0 2 none (some e)
abbrev vC (m e : Rat) : PV := (vB m e).tell m 2 1 (some e) none
abbrev vD (m e : Rat) : PV := (vC m e).set1 1 m jmp
abbrev vE (m e : Rat) : PV := (vD m e).drop 1
set_option maxHeartbeats 4000000 in
theorem posts_rest (T : Pz K mg) {cdv : Value} {A : Around} {outer : List Env} {s : Shared} {H : Hp} {E : XK} {m e : Rat} (hm : WhenW m) (he : Lit e) (hr : Room 9 (A.deeper (envOfC d_law_posts_right.qual (defScope d_law_posts_right.st) s.heap.objs.size d_law_posts_right.f cdv))) (a1 a2 l1 l2 : Addr) (ne : a2 ≠ a1) :
    SXs (xP P w K mg base cdv A outer s H E) [a1, l1, a2, l2] (FamP m e a1 a2 l1 l2 0 vA vA) ((defBody d_law_posts_right.st).drop 2) := by
  have T0 := T.toPx
  have dA := dri_A hm
  have dB := dri_B hm
  have okB : PVOk Dl Mp (vB m e) := ok1 dA hm he
  have okC : PVOk Dl Mp (vC m e) := ok2 dA hm he
  have okD : PVOk Dl Mp (vD m e) := ok2 dB hm he
  obtain ⟨pB, hpB⟩ := pot1 (m := m) (e := e) (cs := csA) (n := 0 + 1)
  obtain ⟨pC, hpC⟩ := pot2 (m := m) (e := e) (cs := csA) (n := 0 + 1 + 1)
  obtain ⟨pD, hpD⟩ := pot2 (m := m) (e := e) (cs := csB m) (n := 0 + 1 + 1)
  have w8 := when_sk hm
  have w0 := when_0 hm
  have e8 := lit_sk he
  have st := st2 (n := 0 + 1 + 1) dB hm he
  have s1 : ∀ x ∈ [a1, l1], x ∈ [a1, l1, a2, l2] := by simp
  have s2 : ∀ x ∈ [a2, l2], x ∈ [a1, l1, a2, l2] := by simp
  refine sxs_if0 (F1 := FamP m e a1 a2 l1 l2 2 (vB m e) (vB m e)) (xq_ne (i := 0 + 1 - 1) hr (F1 := FamP m e a1 a2 l1 l2 1 (vB m e) vA) (xe_call fun G D ⟨p1, p2, h1, h2, eg, ed⟩ => ?_) (xe_call fun G D ⟨p1, p2, h1, h2, eg, ed⟩ => ?_)) ?_
  · subst eg ed
    exact ⟨_, _, _, s1, fun z => ⟨p1 ++ [z], p2, by rw [List.length_append, List.length_singleton]; omega, by omega, rfl, rfl⟩, px_methK (G1 := [.dat (dP m), .dat (dP e), .dat dRates]) (G2 := [.ins a2 PC (vA.st l2)]) (D1 := []) (D2 := [(l2, p2)]) (s := vA.st l1) (ds := [dP e, .int 2, .int 0, dP m]) T0 3 (fmkH_tells T0) hr (by decide) (kd_cons (pd_var 1) (kd_cons pd_int (kd_cons pd_int (kd_cons (pd_var 0) kd_nil)))) (.mk (v := vA) (o1 := 0) (o2 := 2) (lo := none) (hi := some e) okB hpB (by decide) w0) (by omega) True.intro ⟨ne, True.intro⟩⟩
  · subst eg ed
    exact ⟨_, _, _, s2, fun z => ⟨p1, p2 ++ [z], by omega, by rw [List.length_append, List.length_singleton]; omega, rfl, rfl⟩, px_meth (G1 := [.dat (dP m), .dat (dP e), .dat dRates, .ins a1 PC ((vB m e).st l1)]) (G2 := []) (D1 := [(l1, p1)]) (D2 := []) (s := vA.st l2) (ds := [dP m, .int 0, .int 2, .none, dP e]) [] T0 4 (fm_tells T0) (fun _ => rfl) hr (by decide) (pds_cons (pd_var 0) (pds_cons pd_int (pds_cons pd_int (pds_cons pd_non (pds_cons (pd_var 1) pds_nil))))) (.mk (v := vA) (o1 := 0) (o2 := 2) (lo := none) (hi := some e) okB hpB (by decide) w0) (by omega) ⟨ne.symm, True.intro⟩ True.intro⟩
  refine sxs_if0 (F1 := FamP m e a1 a2 l1 l2 4 (vC m e) (vC m e)) (xq_ne (i := 0 + 1 + 1 - 1) hr (F1 := FamP m e a1 a2 l1 l2 3 (vC m e) (vB m e)) (xe_call fun G D ⟨p1, p2, h1, h2, eg, ed⟩ => ?_) (xe_call fun G D ⟨p1, p2, h1, h2, eg, ed⟩ => ?_)) ?_
  · subst eg ed
    exact ⟨_, _, _, s1, fun z => ⟨p1 ++ [z], p2, by rw [List.length_append, List.length_singleton]; omega, by omega, rfl, rfl⟩, px_methK (G1 := [.dat (dP m), .dat (dP e), .dat dRates]) (G2 := [.ins a2 PC ((vB m e).st l2)]) (D1 := []) (D2 := [(l2, p2)]) (s := (vB m e).st l1) (ds := [dP e, .int 1, .int 2, dP m]) T0 3 (fmkL_tells T0) hr (by decide) (kd_cons (pd_var 1) (kd_cons pd_int (kd_cons pd_int (kd_cons (pd_var 0) kd_nil)))) (.mk (v := vB m e) (o1 := 2) (o2 := 1) (lo := some e) (hi := none) okC hpC (Nat.le_of_ble_eq_true rfl) w0) (by omega) True.intro ⟨ne, True.intro⟩⟩
  · subst eg ed
    exact ⟨_, _, _, s2, fun z => ⟨p1, p2 ++ [z], by omega, by rw [List.length_append, List.length_singleton]; omega, rfl, rfl⟩, px_meth (G1 := [.dat (dP m), .dat (dP e), .dat dRates, .ins a1 PC ((vC m e).st l1)]) (G2 := []) (D1 := [(l1, p1)]) (D2 := []) (s := (vB m e).st l2) (ds := [dP m, .int 2, .int 1, dP e]) [.none] T0 4 (fm1_tells T0) (fun _ => Fts.one (d := PyData.none) rfl) hr (by decide) (pds_cons (pd_var 0) (pds_cons pd_int (pds_cons pd_int (pds_cons (pd_var 1) pds_nil)))) (.mk (v := vB m e) (o1 := 2) (o2 := 1) (lo := some e) (hi := none) okC hpC (Nat.le_of_ble_eq_true rfl) w0) (by omega) ⟨ne.symm, True.intro⟩ True.intro⟩
  refine sxs_if0 (F1 := FamP m e a1 a2 l1 l2 6 (vD m e) (vD m e)) (xq_w (xw_or (F1 := FamP m e a1 a2 l1 l2 5 (vD m e) (vC m e)) (xq_notN (xe_call fun G D ⟨p1, p2, h1, h2, eg, ed⟩ => ?_)) (xw_or1 (xq_notN (xe_call fun G D ⟨p1, p2, h1, h2, eg, ed⟩ => ?_))))) ?_
  · subst eg ed
    exact ⟨_, _, _, s1, fun z => ⟨p1 ++ [z], p2, by rw [List.length_append, List.length_singleton]; omega, by omega, rfl, rfl⟩, px_methK (G1 := [.dat (dP m), .dat (dP e), .dat dRates]) (G2 := [.ins a2 PC ((vC m e).st l2)]) (D1 := []) (D2 := [(l2, p2)]) (s := (vC m e).st l1) (ds := [dP jmp, dP m, .int 1]) T0 3 (fmk_sets T0) hr (by decide) (kd_cons (pd_tup (pds_cons pd_int (pds_cons pd_int pds_nil))) (kd_cons (pd_var 0) (kd_cons pd_int kd_nil))) (.mk (v := vC m e) (c := 1) (by decide) (by decide) rfl rfl okD hpD w0 jmp_sk.1) (by omega) True.intro ⟨ne, True.intro⟩⟩
  · subst eg ed
    exact ⟨_, _, _, s2, fun z => ⟨p1, p2 ++ [z], by omega, by rw [List.length_append, List.length_singleton]; omega, rfl, rfl⟩, px_meth (G1 := [.dat (dP m), .dat (dP e), .dat dRates, .ins a1 PC ((vD m e).st l1)]) (G2 := []) (D1 := [(l1, p1)]) (D2 := []) (s := (vC m e).st l2) (ds := [.int 1, dP m, dP jmp]) [] T0 4 (fm_sets T0) (fun _ => rfl) hr (by decide) (pds_cons pd_int (pds_cons (pd_var 0) (pds_cons (pd_tup (pds_cons pd_int (pds_cons pd_int pds_nil))) pds_nil))) (.mk (v := vC m e) (c := 1) (by decide) (by decide) rfl rfl okD hpD w0 jmp_sk.1) (by omega) ⟨ne.symm, True.intro⟩ True.intro⟩
  refine sxs_if0 (F1 := FamP m e a1 a2 l1 l2 6 (vD m e) (vD m e)) (xq_pq fun G D ⟨p1, p2, h1, h2, eg, ed⟩ => ?_) ?_
  · subst eg ed
    exact (wq_q (wq_or (p := false) (pq_neP T hr (by decide) 3 4 st) fun _ => (wq_or1 (p := false) (pq_cmp (cd_same (d := thenD (vD m e) 1 m) hr sh_then (pd_methK (s := (vD m e).st l1) (ds := [dP m, .int 1]) T0 3 (fmk_stretch_at T0) hr (by decide) (kd_cons (pd_var 0) (kd_cons pd_int kd_nil)) (.mk (v := vD m e) (m := some m) okD (by decide) w8 w0)) (pd_meth (s := (vD m e).st l2) (ds := [.int 1, dP m]) [] T0 4 (fm_stretch_at T0) (fun _ => rfl) hr (by decide) (pds_cons pd_int (pds_cons (pd_var 0) pds_nil)) (.mk (v := vD m e) (m := some m) okD (by decide) w8 w0)))))))
  refine sxs_if0 (F1 := FamP m e a1 a2 l1 l2 6 (vD m e) (vD m e)) (xq_pq fun G D ⟨p1, p2, h1, h2, eg, ed⟩ => ?_) ?_
  · subst eg ed
    exact (pq_cmp (cd_same (d := thenD (vD m e) 2 m) hr sh_then (pd_methK (s := (vD m e).st l1) (ds := [dP m, .int 2]) T0 3 (fmk_stretch_at T0) hr (by decide) (kd_cons (pd_var 0) (kd_cons pd_int kd_nil)) (.mk (v := vD m e) (m := some m) okD (by decide) w8 w0)) (pd_meth (s := (vD m e).st l2) (ds := [.int 2, dP m]) [] T0 4 (fm_stretch_at T0) (fun _ => rfl) hr (by decide) (pds_cons pd_int (pds_cons (pd_var 0) pds_nil)) (.mk (v := vD m e) (m := some m) okD (by decide) w8 w0))))
  refine sxs_if0 (F1 := FamP m e a1 a2 l1 l2 6 (vD m e) (vD m e)) (xq_pq fun G D ⟨p1, p2, h1, h2, eg, ed⟩ => ?_) ?_
  · subst eg ed
    exact (wq_q (wq_or (p := false) (pq_cmp (cd_same (d := thenD (vD m e) 2 0) hr sh_then (pd_methK (s := (vD m e).st l1) (ds := [.int 2]) T0 3 (fmk0_stretch_at T0) hr (by decide) (kd_cons pd_int kd_nil) (.mk (v := vD m e) (m := none) okD (by decide) (sk_zero (by decide)) (by decide))) (pd_meth (s := (vD m e).st l2) (ds := [.int 2, dP 0]) [] T0 4 (fm_stretch_at T0) (fun _ => rfl) hr (by decide) (pds_cons pd_int (pds_cons (pd_tup (pds_cons pd_int (pds_cons pd_int pds_nil))) pds_nil)) (.mk (v := vD m e) (m := some 0) okD (by decide) (sk_zero (by decide)) (by decide))))) fun _ => (wq_or1 (p := false) (pq_cmp (cd_same (d := dClk (clkAt (vD m e).cs 1)) hr (sh_clk (n := 5)) (pd_methK (s := (vD m e).st l1) (ds := [.int 1]) T0 3 (fmk_clock_now T0) hr (by decide) (kd_cons pd_int kd_nil) (.mk (v := vD m e) okD.cs.len (by decide))) (pd_meth (s := (vD m e).st l2) (ds := [.int 1]) [] T0 4 (fm_clock_now T0) (fun _ => rfl) hr (by decide) (pds_cons pd_int pds_nil) (.mk (v := vD m e) okD.cs.len (by decide))))))))
  refine sxs_if0 (F1 := FamP m e a1 a2 l1 l2 6 (vD m e) (vD m e)) (xq_pq fun G D ⟨p1, p2, h1, h2, eg, ed⟩ => ?_) ?_
  · subst eg ed
    exact (pq_cmp (cd_same (d := errD (vD m e) 2 m e) hr sh_err (pd_methK (s := (vD m e).st l1) (ds := [dP e, dP m, .int 2]) T0 3 (fmk_error_by T0) hr (by decide) (kd_cons (pd_var 1) (kd_cons (pd_var 0) (kd_cons pd_int kd_nil))) (.mk (v := vD m e) okD (by decide) w8 w0 e8)) (pd_meth (s := (vD m e).st l2) (ds := [.int 2, dP m, dP e]) [] T0 4 (fm_error_by T0) (fun _ => rfl) hr (by decide) (pds_cons pd_int (pds_cons (pd_var 0) (pds_cons (pd_var 1) pds_nil))) (.mk (v := vD m e) okD (by decide) w8 w0 e8))))
  refine sxs_ret (F1 := FamP m e a1 a2 l1 l2 7 (vE m e) (vD m e)) (xe_and (F1 := FamP m e a1 a2 l1 l2 7 (vE m e) (vD m e)) (xe_isN (xe_call fun G D ⟨p1, p2, h1, h2, eg, ed⟩ => ?_)) (xe_one (xe_pd fun G D ⟨p1, p2, h1, h2, eg, ed⟩ => ?_)))
  · subst eg ed
    exact ⟨_, _, _, s1, fun z => ⟨p1 ++ [z], p2, by rw [List.length_append, List.length_singleton]; omega, by omega, rfl, rfl⟩, px_methK (G1 := [.dat (dP m), .dat (dP e), .dat dRates]) (G2 := [.ins a2 PC ((vD m e).st l2)]) (D1 := []) (D2 := [(l2, p2)]) (s := (vD m e).st l1) (ds := [.int 1]) T0 3 (fmk_calls_false T0) hr (by decide) (kd_cons pd_int kd_nil) (.mk (v := vD m e) (k := 1) (by simp) (Nat.le_of_ble_eq_true rfl)) (by omega) True.intro ⟨ne, True.intro⟩⟩
  · subst eg ed
    exact (pd_cmp ((cd_eq' hr (pd_lenP (v := vE m e) (l := l1) T0 hr (by decide) 3 (Nat.lt_of_lt_of_le (show (vE m e).tl.length < 2 from Nat.le_of_ble_eq_true rfl) (by decide))) pd_int).to rfl))
end
end Gk
end

section
set_option linter.all false
set_option maxRecDepth 100000
namespace Gk
open PySem PySem.Spec PyProof.Rows L2 Evl
section
variable {P : Program} {w : World} {K : PySem.W.Frag} {mg : Str → Option Value} {base : Heap}
set_option maxHeartbeats 2000000 in
theorem fn_law_posts (T : Pz K mg) : Fn P w K mg base 10 "_law_posts_right" ["_law_when", "_law_end"] [] (spD K R_law_posts) := by
  refine Fn.mk_ T.toTx m_law_posts_right rfl g_law_posts_right (fun _ _ _ _ _ _ us hl => match us, hl with | [_, _], _ => rfl) fun fd F => FunD.ok F sc_law_posts (fun vs H Q E h => ?_) (fun cdv A outer s H vs Q E hr h => ?_)
  · obtain ⟨ds, r, hf, hR, _⟩ := h
    rw [hf.len]
    cases hR
    rfl
  · obtain ⟨ds, r, hf, hR, q⟩ := h
    cases hR with
    | @mk m e hm he =>
      have T0 := T.toPx
      have h0 : SM (xP P w K mg base cdv A outer s H E) [] [.dat (dP m), .dat (dP e), .no, .no, .no] [] (headS (defBody d_law_posts_right.st)) (fun G' D' => G' = [.dat (dP m), .dat (dP e), .dat dRates, .no, .no] ∧ D' = []) :=
        sm_of (sd_asg (d := dRates) 2 sc_law_posts.nd (pd_tup (pds_cons (pd_tup (pds_cons pd_int (pds_cons pd_int pds_nil))) (pds_cons (pd_tup (pds_cons pd_int (pds_cons pd_int pds_nil))) (pds_cons (pd_tup (pds_cons (pd_neg pd_int) (pds_cons pd_int pds_nil))) (pds_cons (pd_tup (pds_cons pd_int (pds_cons pd_int pds_nil))) (pds_cons (pd_tup (pds_cons pd_int (pds_cons pd_int pds_nil))) (pds_cons (pd_tup (pds_cons pd_int (pds_cons pd_int pds_nil))) pds_nil))))))) ⟨rfl, rfl⟩)
      have h1 : PS (xP P w K mg base cdv A outer s H E) (headS ((defBody d_law_posts_right.st).drop 1)) _ :=
        ps_par (i := 3) (j := 4) rfl sc_law_posts.nd rfl rfl (by decide) rfl rfl (pa_cons (px_newK (G := [.dat (dP m), .dat (dP e), .dat dRates, .no, .no]) (D := []) T0 gains_l hr (by decide) (kd_cons (pd_var 2) kd_nil)) (pa_cons (px_new (G := [.dat (dP m), .dat (dP e), .dat dRates, .no, .no]) (D := []) T0 gains_l hr (by decide) (pd_var 2)) pa_nil (by rfl)) (by rfl)) (by rfl) (by rfl)
      have h2 : PSs (xP P w K mg base cdv A outer s H E) ((defBody d_law_posts_right.st).drop 2) (fun En t H1 => ∃ a1 a2 l1 l2 H0, a2 ≠ a1 ∧ Stp [a1, l1, a2, l2] H0 H1 ∧ Stt K (FamP m e a1 a2 l1 l2 0 vA vA) t H1 ∧ ∀ H', Stp [a1, l1, a2, l2] H0 H' → En.rt (.bl true) H') :=
        ⟨fun p s' c H' En I ⟨a1, a2, l1, l2, H0, ne, z⟩ => (posts_rest T hm he hr a1 a2 l1 l2 ne H0).run p s' c H' En I z⟩
      have hb : PSs (xP P w K mg base cdv A outer s H E) (defBody d_law_posts_right.st) (fun En t H1 => EnvE K [.dat (dP m), .dat (dP e), .no, .no, .no] [] t H1 ∧ ∀ H', Ex H1 H' → En.rt (.bl true) H') := by
        refine PSs.by_ (pss_cons h0 (pss_cons h1 h2)) fun En t H1 ⟨E1, r⟩ => ⟨E1, fun G' D' t2 H2 st E2 z => ?_⟩
        obtain ⟨rfl, rfl⟩ := z
        refine ⟨E2, fun a1 l1 H3 n1 m1 ne1 x1 hl1 i1 => ⟨E2.mono x1, fun a2 l2 H4 n2 m2 ne2 x2 hl2 i2 => ?_⟩⟩
        refine ⟨.ref a1, .ref a2, rfl, a1, a2, l1, l2, H4, ?_, Stp.refl _ _, ⟨_, _, ⟨[], [], Nat.le_refl _, Nat.le_refl _, rfl, rfl⟩, ?_, ?_, ?_⟩, fun H5 s5 => r H5 fun b o hb => ?_⟩
        · intro z
          obtain ⟨dx, v1, v2, h1, _⟩ := i1
          rw [z, h1] at n2
          cases n2
        · exact ((E2.mono (x1.trans x2)).slots.set 3 (s := .ins a1 PC (vA.st l1)) (x := some (.ref a1)) ⟨rfl, i1.mono (Ex.tp x2)⟩).set 4 (s := .ins a2 PC (vA.st l2)) (x := some (.ref a2)) ⟨rfl, i2⟩
        · have : l1 ≠ l2 := fun z => by
            rw [← z, hl1] at m2
            cases m2
          simp [this]
        · intro p hp
          rcases List.mem_cons.mp hp with rfl | hp
          · exact ⟨[], x2 _ _ hl1, rfl⟩
          · rw [List.mem_singleton.mp hp]
            exact ⟨[], hl2, rfl⟩
        · have b2 := st.toEx _ _ hb
          have b3 := x1 _ _ b2
          refine s5 b o (x2 _ _ b3) fun mm => ?_
          simp only [List.mem_cons, List.not_mem_nil, or_false] at mm
          rcases mm with rfl | rfl | rfl | rfl
          · rw [n1] at b2; cases b2
          · rw [m1] at b2; cases b2
          · rw [n2] at b3; cases b3
          · rw [m2] at b3; cases b3
      refine ⟨_, hb.nox, ⟨?_, List.nodup_nil, fun p hp => (nomatch hp)⟩, fun H' x => q _ H' x rfl⟩
      have hl : vs.length = 2 := hf.len
      unfold L2.start
      rw [hl]
      exact slots_start 3 hf
end
end Gk
end

section
set_option linter.all false
set_option maxRecDepth 100000
set_option maxHeartbeats 2000000
namespace Gk
open PySem PySem.Spec PyProof.Rows L2 Evl
/-! ## the two exceptions with fields -/
abbrev CE0 : Addr := 31
abbrev CT : Addr := 195
abbrev CN : Addr := 214
structure Pe (K : PySem.W.Frag) (mg : Str → Option Value) : Prop extends Pz K mg where
  ckR : PySem.W.readsIn K CE0 (.type "type") = true
  ckG : PySem.W.specialIn K (.ref CE0) "__getattribute__" = some (some (.builtin "type.__getattribute__"))
  ckI : PySem.W.findCls K (.ref CE0) (.type "type") "__init__" = some (.val (.builtin "ValueError.__init__"))
  tm : OexC K CT
  nt : OexC K CN
  tmI : PySem.W.findIn K (.ref CT) "__init__" = some (some (.ref 192))
  ntI : PySem.W.findIn K (.ref CN) "__init__" = some (some (.ref 211))
  tmT : PySem.W.typeIn K (.ref 192) = some (.type "function")
  ntT : PySem.W.typeIn K (.ref 211) = some (.type "function")
  tm1 : PySem.W.findIn K (.ref CT) "many" = some none
  tm2 : PySem.W.findIn K (.ref CT) "most" = some none
  nt1 : PySem.W.findIn K (.ref CN) "at" = some none
  tmX : XfC K CT
  ntX : XfC K CN
section
variable {X : Cx} {e o : Expr} {es : List Expr} {ta : TA} {te : TE} {p1 p2 pos : Pos} {n : Str}
/-- ClockError.__init__(self, ..) -/
theorem pe_ckinit {pl : Sem Bool} (T : Pe X.K X.mg) (hg : Gl X "ClockError") (ha : PA X (e :: es) ta)
    (hc : eval (.Call (.Attribute (.Name "ClockError" p1) "__init__" p2) (e :: es) [] pos) X.env = (do
      let ov ← eval (.Name "ClockError" p1) X.env
      standAt p2.atName
      let (f, first) ← holding [ov] (getMethod ov "__init__" pl)
      callWith pos f first (backTo pos (starEach (e :: es) X.env)) (backToKw pos (keywordEach [] X.env))) := by rfl)
    (he : starEach (e :: es) X.env = (false, eval e X.env) :: starEach es X.env := by rfl) (hpl : (backTo pos (starEach es X.env)).any (·.1) = false := by rfl) :
    PE X (.Call (.Attribute (.Name "ClockError" p1) "__init__" p2) (e :: es) [] pos) (tVeI X.K ta) := by
  refine ⟨fun pins s σ H Q I h => ?_⟩
  refine PySem.W.methodCall_KW (ld_glob I hg (T.at_ g_ClockError) ?_ (by decide)) hc
  refine PySem.W.method_cls I.kIn T.ckG (PySem.W.cls_value I.kIn T.ckR T.ckI (by decide +kernel) ?_)
  show wpAny _ _ (callWith pos (Value.builtin "ValueError.__init__") [] (backTo pos (starEach (e :: es) X.env)) []) _ _ _
  refine PyProof.Rows.callWith_method1 (thn (ha.run pos pins _ σ H _ (I.tok _) h) fun us s1 ⟨vs, H1, I1, r1, a, C, ws, ev, hl, T, ea, q⟩ => ?_) he hpl
  subst ev
  cases r1 with
  | @cons _ u0 _ ur ra rw' =>
    obtain rfl : u0 = Value.ref a := ra
    have hlen : ur.length ≤ sizeLine := by
      rw [← Paired.length rw', sizeLine_eq]
      omega
    exact oinit_ok T I1 ea hlen fun s' J => ⟨.non, H1, J, rfl, q⟩
/-- a field of an exception that stands -/
def tXfo (K : PySem.W.Frag) (n : Str) (te : TE) : TE := fun σ H Q => te σ H fun x H1 => ∃ (a C dd : Addr) (fs : List (Str × V)) (v : V), x = .ref a ∧ XfC K C ∧ PySem.W.findIn K (.ref C) n = some none ∧ H1 a = some (exo a C (some dd)) ∧ H1 dd = some (exd dd fs) ∧ fs.lookup n = some v ∧ Q v H1
theorem pe_xfo (he : PE X e te) (hb : attributeBase e n X.env (eval e X.env) = eval e X.env := by rfl) : PE X (.Attribute e n pos) (tXfo X.K n te) := by
  refine ⟨fun pins s σ H Q I h => ?_⟩
  refine attr_of hb (thn (he.run pins s σ H _ I h) fun u s1 hh => ?_)
  obtain ⟨x, H1, I1, rx, a, C, dd, fs, v, ex, T, hno, ea, ed, l, q⟩ := hh
  subst ex
  obtain rfl : u = Value.ref a := rx
  obtain ⟨t1, ho⟩ := exo_at I1.hok ea
  obtain ⟨mA, hns, hr⟩ := exd_at I1.hok ed
  obtain ⟨od, hod, hl⟩ := lookIn_ns hns
  obtain ⟨u, hu, ru⟩ := RelO.some_of (v := v) (o := mA n) (by rw [← l]; exact hr n)
  exact HandSPX.exc_get I1.kIn (od := some od) ⟨ho, rfl, rfl, hod⟩ T.ga T.gg T.exC (PySem.W.findObj_own T.hdC hno rfl (by rw [hl, hu])) (handed_of ru) ⟨v, H1, I1.tok _, ru, q⟩
end
/-- what such an __init__ leaves: an exception with these fields, nothing else touched -/
def spExc (C : Addr) (n : Nat) (fs : List Int → List (Str × V)) : Sp := fun vs H Q _ => ∃ (a : Addr) (is : List Int), vs = .ref a :: is.map V.int ∧ is.length = n ∧ H a = some (exo a C none) ∧
  ∀ H' dx, (∀ b o, b ≠ a → H b = some o → H' b = some o) → H dx = none → H' a = some (exo a C (some dx)) → H' dx = some (exd dx (fs is)) → Q .non H'
section
variable {P : Program} {w : World} {K : PySem.W.Frag} {mg : Str → Option Value} {base : Heap}
theorem sc_TooMany_init : FnScope ["self", "many", "most"] ["self", "many", "most"] (defScope s_TooMany_init) := ⟨rfl, rfl, rfl, by decide +kernel, rfl, by decide +kernel, by decide +kernel⟩
theorem sc_NoText_init : FnScope ["self", "at"] ["self", "at"] (defScope s_NoText_init) := ⟨rfl, rfl, rfl, by decide +kernel, rfl, by decide +kernel, by decide +kernel⟩
theorem pvr {X : Cx} (i : Nat) {x : Str} {p : Pos} (hN : X.N[i]? = some x := by rfl) (hv : Vis X.env.scope x := by first | exact Or.inl rfl | exact Or.inr (Or.inl rfl) | exact Or.inr (Or.inr rfl)) (hd : (x == ("__debug__" : Str)) = false := by decide) (hcd : (x == ("__classdict__" : Str)) = false := by decide) : PE X (.Name x p) (tVar i) := pe_var hN hv hd hcd
abbrev fsT : List Int → List (Str × V) := fun is => [("most", .int (is.getD 1 0)), ("many", .int (is.getD 0 0))]
abbrev fsN : List Int → List (Str × V) := fun is => [("at", .int (is.getD 0 0))]
theorem ok_TooMany (T : Pe K mg) {dvs : List V} {fd : FuncData} (F : FunD K d_TooMany_init.name d_TooMany_init.qual (defArgs d_TooMany_init.st) (defBody d_TooMany_init.st) (defScope d_TooMany_init.st) dvs [] d_TooMany_init.f fd) : FnOk P w K mg base CX0 1 d_TooMany_init.f fd ["self", "many", "most"] (spExc CT 2 fsT) := by
  refine FunD.ok F sc_TooMany_init (fun vs H Q E h => ?_) (fun cdv A outer s H vs Q E hr h => ?_)
  · obtain ⟨a, is, rfl, hl, _⟩ := h
    rw [List.length_cons, List.length_map, hl] <;> rfl
  · obtain ⟨a, is, rfl, hl, ea, q⟩ := h
    match is, hl with
    | [i, j], _ =>
      refine ⟨_, PSs.nox (X := cxOf CX0 P w K mg base ["self", "many", "most"] d_TooMany_init.qual (defScope d_TooMany_init.st) d_TooMany_init.f cdv A outer s H E) (pss_cons (ps_expr (pe_ckinit T rfl (pa_cons (pvr 0) (pa_cons pe_str pa_nil)))) (pss_cons (ps_ost (pvr 0) (pvr 1)) (pss_one (ps_ost (pvr 0) (pvr 2))))), ?_⟩
      refine ⟨.ref a, rfl, a, CT, _, rfl, by decide, T.tm, ea, ?_⟩
      refine ⟨.int i, rfl, .ref a, rfl, a, CT, rfl, T.tm, T.tm1, .inl ⟨ea, fun dx nx ne => ?_⟩⟩
      refine ⟨.int j, rfl, .ref a, rfl, a, CT, rfl, T.tm, T.tm2, .inr ⟨dx, _, upd_same, by rw [upd_ne ne]; exact upd_same, Nat.le_of_ble_eq_true rfl, ?_⟩⟩
      refine q _ dx (fun b o hb hbo => ?_) nx ?_ upd_same
      · have hd : b ≠ dx := fun z => by rw [z, nx] at hbo; cases hbo
        rw [upd_ne hd, upd_ne hb, upd_ne hd]
        exact hbo
      · rw [upd_ne ne.symm]
        exact upd_same
theorem ok_NoText (T : Pe K mg) {dvs : List V} {fd : FuncData} (F : FunD K d_NoText_init.name d_NoText_init.qual (defArgs d_NoText_init.st) (defBody d_NoText_init.st) (defScope d_NoText_init.st) dvs [] d_NoText_init.f fd) : FnOk P w K mg base CX0 1 d_NoText_init.f fd ["self", "at"] (spExc CN 1 fsN) := by
  refine FunD.ok F sc_NoText_init (fun vs H Q E h => ?_) (fun cdv A outer s H vs Q E hr h => ?_)
  · obtain ⟨a, is, rfl, hl, _⟩ := h
    rw [List.length_cons, List.length_map, hl] <;> rfl
  · obtain ⟨a, is, rfl, hl, ea, q⟩ := h
    match is, hl with
    | [i], _ =>
      refine ⟨_, PSs.nox (X := cxOf CX0 P w K mg base ["self", "at"] d_NoText_init.qual (defScope d_NoText_init.st) d_NoText_init.f cdv A outer s H E) (pss_cons (ps_expr (pe_ckinit T rfl (pa_cons (pvr 0) (pa_cons pe_str pa_nil)))) (pss_one (ps_ost (pvr 0) (pvr 1)))), ?_⟩
      refine ⟨.ref a, rfl, a, CN, _, rfl, by decide, T.nt, ea, ?_⟩
      refine ⟨.int i, rfl, .ref a, rfl, a, CN, rfl, T.nt, T.nt1, .inl ⟨ea, fun dx nx ne => ?_⟩⟩
      refine q _ dx (fun b o hb hbo => ?_) nx upd_same (by rw [upd_ne ne]; exact upd_same)
      have hd : b ≠ dx := fun z => by rw [z, nx] at hbo; cases hbo
      rw [upd_ne hb, upd_ne hd]
      exact hbo
end
end Gk
end

section
set_option linter.all false
set_option maxRecDepth 100000
set_option maxHeartbeats 2000000
namespace Gk
open PySem PySem.Spec PyProof.Rows L2 Evl
section
variable {X : Cx} {n : Nat} {p pos : Pos} {kp1 kp2 c1 c2 : Pos} {j1 j2 : Nat}
/-- a new exception with such fields -/
def tExc (C : Addr) (fs : List (Str × V)) : TE := fun _ H Q => ∀ a dx H', H a = none → H dx = none → dx ≠ a → Ex H H' → H' a = some (exo a C (some dx)) → H' dx = some (exd dx fs) → Q (.ref a) H'
theorem exc_made {C : Addr} {k : Nat} {fs : List Int → List (Str × V)} {is : List Int} {H : Hp} {Q : VK} {a : Addr} (hl : is.length = k) (ha : H a = none) (q : ∀ a dx H', H a = none → H dx = none → dx ≠ a → Ex H H' → H' a = some (exo a C (some dx)) → H' dx = some (exd dx (fs is)) → Q (.ref a) H') :
    spExc C k fs (.ref a :: is.map V.int) (upd H a (exo a C none)) (fun v H2 => v = .non ∧ Q (.ref a) H2) E0 := by
  refine ⟨a, is, rfl, hl, upd_same, fun H' dx k nx h1 h2 => ⟨rfl, ?_⟩⟩
  have ne : dx ≠ a := fun z => by
    rw [z, upd_same] at nx
    cases nx
  rw [upd_ne ne] at nx
  refine q a dx H' ha nx ne (fun b o hb => ?_) h1 h2
  have hba : b ≠ a := fun z => by rw [z, ha] at hb; cases hb
  exact k b o hba (by rw [upd_ne hba]; exact hb)
theorem pe_tooMany (T : Pe X.K X.mg) (hr : Room n X.A) (hk : 2 ≤ n) (hg : Gl X "TooMany" := by rfl)
    (hall : (backToKw pos (keywordEach [⟨some "most", .Constant (.int 7) j1 c1, kp1⟩, ⟨some "many", .Constant (.int 9) j2 c2, kp2⟩] X.env)).all (·.1.isSome) = true := by rfl)
    (hks : (backToKw pos (keywordEach [⟨some "most", .Constant (.int 7) j1 c1, kp1⟩, ⟨some "many", .Constant (.int 9) j2 c2, kp2⟩] X.env)).filterMap (·.1) = (["most", "many"] : List Str) := by rfl)
    (hpl : ((backTo pos (starEach [] X.env)).any (·.1) || (backToKw pos (keywordEach [⟨some "most", .Constant (.int 7) j1 c1, kp1⟩, ⟨some "many", .Constant (.int 9) j2 c2, kp2⟩] X.env)).any (·.1.isNone)) = false := by rfl) :
    PE X (.Call (.Name "TooMany" p) [] [⟨some "most", .Constant (.int 7) j1 c1, kp1⟩, ⟨some "many", .Constant (.int 9) j2 c2, kp2⟩] pos) (tExc CT (fsT [9, 7])) := by
  obtain ⟨fd, f⟩ := T.fn d_TooMany_init m_TooMany_init rfl
  have KB : KBn X.K fd ["self", "many", "most"] 1 ["most", "many"] (fun us ws => us ++ ws.reverse) (fun vs zs => vs ++ zs.reverse) := by
    refine ⟨fun s us ws X hu hw => ?_, fun r1 r2 => r1.append r2.reverse⟩
    obtain ⟨oc, od, dV, kV, doc, pm, an, cdv, ct, osl, rfl, lk, hcd, hD, hK⟩ := f.ex
    rcases hD with ⟨_, rfl⟩ | ⟨e, _⟩
    · exact .of_eq (match us, ws, hu, hw with | [_], [_, _], _, _ => rfl)
    · exact absurd rfl e
  refine PE.by_ (pe_mkX T.tm T.tmI T.tmT (ok_TooMany T f) (hr.mono hk) KB pass0 (pk_cons pe_int (pk_cons pe_int pk_nil)) (T.at_ g_TooMany) hg hall hks (by decide) hpl) fun t H Q q => ?_
  exact ⟨rfl, fun a ha => exc_made (is := [9, 7]) rfl ha q⟩
theorem pe_noText (T : Pe X.K X.mg) (hr : Room n X.A) (hk : 2 ≤ n) (hg : Gl X "NoText" := by rfl)
    (hall : (backToKw pos (keywordEach [⟨some "at", .Constant (.int 3) j1 c1, kp1⟩] X.env)).all (·.1.isSome) = true := by rfl)
    (hks : (backToKw pos (keywordEach [⟨some "at", .Constant (.int 3) j1 c1, kp1⟩] X.env)).filterMap (·.1) = (["at"] : List Str) := by rfl)
    (hpl : ((backTo pos (starEach [] X.env)).any (·.1) || (backToKw pos (keywordEach [⟨some "at", .Constant (.int 3) j1 c1, kp1⟩] X.env)).any (·.1.isNone)) = false := by rfl) :
    PE X (.Call (.Name "NoText" p) [] [⟨some "at", .Constant (.int 3) j1 c1, kp1⟩] pos) (tExc CN (fsN [3])) := by
  obtain ⟨fd, f⟩ := T.fn d_NoText_init m_NoText_init rfl
  have KB : KBn X.K fd ["self", "at"] 1 ["at"] (fun us ws => us ++ ws) (fun vs zs => vs ++ zs) := by
    refine ⟨fun s us ws X hu hw => ?_, fun r1 r2 => r1.append r2⟩
    obtain ⟨oc, od, dV, kV, doc, pm, an, cdv, ct, osl, rfl, lk, hcd, hD, hK⟩ := f.ex
    rcases hD with ⟨_, rfl⟩ | ⟨e, _⟩
    · exact .of_eq (match us, ws, hu, hw with | [_], [_], _, _ => rfl)
    · exact absurd rfl e
  refine PE.by_ (pe_mkX T.nt T.ntI T.ntT (ok_NoText T f) (hr.mono hk) KB pass0 (pk_cons pe_int pk_nil) (T.at_ g_NoText) hg hall hks (by decide) hpl) fun t H Q q => ?_
  exact ⟨rfl, fun a ha => exc_made (is := [3]) rfl ha q⟩
end
end Gk
end

section
set_option linter.all false
set_option maxRecDepth 100000
set_option maxHeartbeats 2000000
namespace Gk
open PySem PySem.Spec PyProof.Rows L2 Evl
section
variable {X : Cx} {n : Nat} {x y : Str} {pos q1 q2 q3 q4 q5 q6 q7 q8 q9 q10 q11 : Pos} {k1 k2 j1 j2 j3 : Nat} {s1 : List Stmt} {p : Addr} {M : List Addr} {G : List Slot} {D : Lists} {N : NP} {Rd : WOne}
/-- the fields that both hold -/
def tFlds (K : PySem.W.Frag) (i j : Nat) : TT := fun t H Q => ∃ a b dx dy, t[i]? = some (some (.ref a)) ∧ t[j]? = some (some (.ref b)) ∧ H a = some (exo a CT (some dx)) ∧ H dx = some (exd dx (fsT [9, 7])) ∧ H b = some (exo b CN (some dy)) ∧ H dy = some (exd dy (fsN [3])) ∧ ∀ H', Ex H H' → Q false H'
theorem pt_flds (T : Pe X.K X.mg) (hr : Room n X.A) (i j : Nat) (hi : X.N[i]? = some x) (hj : X.N[j]? = some y) (hv : Vis X.env.scope x) (hv2 : Vis X.env.scope y) (hd : (x == ("__debug__" : Str)) = false) (hcd : (x == ("__classdict__" : Str)) = false) (hd2 : (y == ("__debug__" : Str)) = false) (hcd2 : (y == ("__classdict__" : Str)) = false)
    (hb1 : attributeBase (.Name x q1) "many" X.env (eval (.Name x q1) X.env) = eval (.Name x q1) X.env) (hb2 : attributeBase (.Name x q3) "most" X.env (eval (.Name x q3) X.env) = eval (.Name x q3) X.env) (hb3 : attributeBase (.Name y q5) "at" X.env (eval (.Name y q5) X.env) = eval (.Name y q5) X.env)
    (hs1 : starEach [.Attribute (.Name x q1) "many" q2, .Attribute (.Name x q3) "most" q4, .Attribute (.Name y q5) "at" q6] X.env = (false, eval (.Attribute (.Name x q1) "many" q2) X.env) :: starEach [.Attribute (.Name x q3) "most" q4, .Attribute (.Name y q5) "at" q6] X.env)
    (hs2 : starEach [.Attribute (.Name x q3) "most" q4, .Attribute (.Name y q5) "at" q6] X.env = (false, eval (.Attribute (.Name x q3) "most" q4) X.env) :: starEach [.Attribute (.Name y q5) "at" q6] X.env)
    (hs3 : starEach [.Attribute (.Name y q5) "at" q6] X.env = (false, eval (.Attribute (.Name y q5) "at" q6) X.env) :: starEach [] X.env)
    (hm : behindInMarks .NotEq (.Tuple [.Constant (.int 9) j1 q8, .Constant (.int 7) j2 q9, .Constant (.int 3) j3 q10] k2 q11) = false) (hw1 : starEach [.Constant (.int 9) j1 q8, .Constant (.int 7) j2 q9, .Constant (.int 3) j3 q10] X.env = (false, eval (.Constant (.int 9) j1 q8) X.env) :: starEach [.Constant (.int 7) j2 q9, .Constant (.int 3) j3 q10] X.env)
    (hw2 : starEach [.Constant (.int 7) j2 q9, .Constant (.int 3) j3 q10] X.env = (false, eval (.Constant (.int 7) j2 q9) X.env) :: starEach [.Constant (.int 3) j3 q10] X.env) (hw3 : starEach [.Constant (.int 3) j3 q10] X.env = (false, eval (.Constant (.int 3) j3 q10) X.env) :: starEach [] X.env) :
    PT X (.Compare (.Tuple [.Attribute (.Name x q1) "many" q2, .Attribute (.Name x q3) "most" q4, .Attribute (.Name y q5) "at" q6] k1 q7) [.NotEq] [.Tuple [.Constant (.int 9) j1 q8, .Constant (.int 7) j2 q9, .Constant (.int 3) j3 q10] k2 q11] pos) (tFlds X.K i j) := by
  refine PT.by_ (pt_cmpR (op_neD hr.units) (pe_tup (pa_cons (pe_xfo (pe_var hi hv hd hcd) hb1) (pa_cons (pe_xfo (pe_var hi hv hd hcd) hb2) (pa_cons (pe_xfo (pe_var hj hv2 hd2 hcd2) hb3) pa_nil hs3) hs2) hs1)) (pe_tup (pa_cons pe_int (pa_cons pe_int (pa_cons pe_int pa_nil hw3) hw2) hw1)) hm) fun t H Q ⟨a, b, dx, dy, e1, e2, h1, h2, h3, h4, q⟩ => ?_
  refine ⟨_, e1, a, CT, dx, _, .int 9, rfl, T.tmX, T.tm1, h1, h2, rfl, ?_⟩
  refine ⟨_, e1, a, CT, dx, _, .int 7, rfl, T.tmX, T.tm2, h1, h2, rfl, ?_⟩
  refine ⟨_, e2, b, CN, dy, _, .int 3, rfl, T.ntX, T.nt1, h3, h4, rfl, ?_⟩
  refine ⟨by show 3 ≤ sizeLine; decide, fun p1 n1 => ⟨by show 3 ≤ sizeLine; decide, fun p2 n2 => ?_⟩⟩
  have x2 : Ex (upd H p1 (.tup [.int 9, .int 7, .int 3])) (upd (upd H p1 (.tup [.int 9, .int 7, .int 3])) p2 (.tup [.int 9, .int 7, .int 3])) := Ex.new n2
  have f1 : Ft X.K (upd (upd H p1 (.tup [.int 9, .int 7, .int 3])) p2 (.tup [.int 9, .int 7, .int 3])) (.tuple [.int 9, .int 7, .int 3]) (.ref p1) := ⟨p1, _, rfl, SqT.of (x2 _ _ upd_same), Fts.of_ints [9, 7, 3]⟩
  have f2 : Ft X.K (upd (upd H p1 (.tup [.int 9, .int 7, .int 3])) p2 (.tup [.int 9, .int 7, .int 3])) (.tuple [.int 9, .int 7, .int 3]) (.ref p2) := ⟨p2, _, rfl, SqT.of upd_same, Fts.of_ints [9, 7, 3]⟩
  refine ⟨.tuple [.int 9, .int 7, .int 3], .tuple [.int 9, .int 7, .int 3], f1.dp, f2.dp, rfl, rfl, ?_⟩
  refine ⟨false, ?_, q _ ((Ex.new n1).trans x2)⟩
  have e : PyData.eqv (.tuple [.int 9, .int 7, .int 3]) (.tuple [.int 9, .int 7, .int 3]) = true := by rfl
  rw [e] <;> rfl
end
end Gk
end

section
set_option linter.all false
set_option maxRecDepth 100000
set_option exponentiation.threshold 10000
namespace Gk
open PySem PySem.Spec PyProof.Rows L2 Evl
/-! ## what the law draws, plain -/
def TelsW (ts : List Tel) : Prop := ts.length ≤ 8 ∧ ∀ t ∈ ts, TelW t
theorem nn_tels {ts : List Tel} (h : ∀ t ∈ ts, TelW t) : NN (stepsOf ts) := by
  have key : ∀ s ∈ stepsOf ts, 0 ≤ s.long ∧ s.one < 6 ∧ s.other < 6 := fun s hs => by
    obtain ⟨p, hp, hs⟩ := List.mem_flatMap.mp hs
    have ht : p.2 ∈ ts := List.mem_of_getElem? (enumL_mem hp)
    have w := h _ ht
    have k := w.ok
    unfold stepsAt at hs
    rcases List.mem_append.mp hs with hs | hs
    · cases e : p.2.high with
      | none => rw [e] at hs; cases hs
      | some b =>
        rw [e] at hs
        rw [List.mem_singleton.mp hs]
        exact ⟨w.hi0 b e, k.one, k.other⟩
    · cases e : p.2.low with
      | none => rw [e] at hs; cases hs
      | some b =>
        rw [e] at hs
        rw [List.mem_singleton.mp hs]
        have := w.lo0 b e
        exact ⟨by show 0 ≤ -b; grind, k.other, k.one⟩
  exact ⟨fun s hs => (key s hs).1, fun s hs => (key s hs).2.1, fun s hs => (key s hs).2.2⟩
theorem sz2_l : Sz2 Dl Ml := ⟨⟨by decide, Nat.lt_of_lt_of_le (show Dl < 2 ^ 100 by decide) (Nat.pow_le_pow_right (by decide) (by decide)), Nat.lt_of_lt_of_le (show Ml < 2 ^ 100 by decide) (Nat.pow_le_pow_right (by decide) (by decide))⟩, Nat.lt_of_lt_of_le (show Ml < 2 ^ 100 by decide) (Nat.pow_le_pow_right (by decide) (by decide)), ⟨(Dl : Int), by rw [Rat.one_mul]; rfl, by decide⟩⟩
theorem tels_ok {ts : List Tel} (h : TelsW ts) : Tels Dl Ml ts := ⟨Nat.le_trans h.1 (by decide), fun t ht => (h.2 t ht).ok⟩
theorem tels_more {ts : List Tel} {o : Tel} (h : TelsW ts) (ho : TelW o) : ∀ t ∈ ts ++ [o], TelW t := fun t ht => by
  rcases List.mem_append.mp ht with ht | ht
  · exact h.2 t ht
  · rw [List.mem_singleton.mp ht]; exact ho
theorem asked_l {ts : List Tel} {o : Tel} {c : Nat} (h : TelsW ts) (ho : TelW o) (hc : 1 ≤ c) (h6 : c < 6) : Asked Dl Ml ts o c := ⟨sz2_l.toSz, tels_ok h, Nat.le_trans h.1 (by decide), ho.ok, ⟨_, (nn_tels h.2).pot⟩, ⟨_, (nn_tels (tels_more h ho)).pot⟩, hc, h6⟩
theorem offs_l {ts : List Tel} {o : Tel} (h : TelsW ts) (ho : TelW o) : Offs Dl Ml ts [o, o] := by
  have k : ∀ z ∈ [o, o], z = o := fun z hz => by simpa using hz
  exact ⟨Nat.le_of_ble_eq_true rfl, Nat.le_of_ble_eq_true rfl, fun z hz => by rw [k z hz]; exact ho.ok, fun z hz => by rw [k z hz]; exact ⟨_, (nn_tels (tels_more h ho)).pot⟩⟩
/-- the law's row -/
def RowW (row : List Rat) : Prop := ∃ r, row = 0 :: r ∧ r.length = 5 ∧ ∀ q ∈ r, Lit q
theorem row_l {row : List Rat} (h : RowW row) : RowOk Dl Ml row ∧ row.getD 0 0 = 0 := by
  obtain ⟨r, rfl, hl, hq⟩ := h
  refine ⟨⟨by rw [List.length_cons, hl], fun i => ?_⟩, rfl⟩
  rw [List.getD_eq_getElem?_getD]
  cases e : (0 :: r)[i]? with
  | none => exact Gr.zero
  | some q =>
    rcases List.mem_cons.mp (List.mem_of_getElem? e) with rfl | h
    · exact Gr.zero
    · exact lit_gr (hq q h)
theorem lists_of {α : Type} {f : α → PyData} {W : α → Prop} : ∀ {ds : List PyData}, (∀ d ∈ ds, ∃ x, d = f x ∧ W x) → ∃ xs : List α, ds = xs.map f ∧ ∀ x ∈ xs, W x
  | [], _ => ⟨[], rfl, fun _ z => nomatch z⟩
  | d :: ds, h => by
    obtain ⟨x, e, w⟩ := h d (List.mem_cons_self ..)
    obtain ⟨xs, e2, w2⟩ := lists_of (fun z hz => h z (List.mem_cons_of_mem _ hz))
    subst e e2
    exact ⟨x :: xs, rfl, fun z hz => by
      rcases List.mem_cons.mp hz with rfl | hz
      · exact w
      · exact w2 z hz⟩
theorem lit_sm {q : Rat} (h : Lit q) : Sm q := (lit_sk h).sm (by decide)
end Gk
end

section
set_option linter.all false
set_option maxRecDepth 100000
namespace Gk
open PySem PySem.Spec PyProof.Rows L2 Evl
/-! ## the law: one cell -/
abbrev lawN : List Str := ["_law_script", "_law_cell", "_law_pen", "_law_mine", "_law_yours", "_law_shown", "_law_when", "_law_some_here", "_law_which", "_law_sheet", "_law_great", "_law_wrong", "_law_k"]
theorem sc_law : FnScope lawN ["_law_script"] (defScope s_law) := ⟨rfl, rfl, rfl, by decide +kernel, rfl, by decide +kernel, by decide +kernel⟩
def forBody : Stmt → List Stmt
  | .For _ _ b _ _ => b
  | _ => []
abbrev turnS : List Stmt := forBody (headS (defBody d_law.st))
section
variable {P : Program} {w : World} {K : PySem.W.Frag} {mg : Str → Option Value} {base : Heap}
abbrev xL (P : Program) (w : World) (K : PySem.W.Frag) (mg : Str → Option Value) (base : Heap) (cdv : Value) (A : Around) (outer : List Env) (s : Shared) (H : Hp) (E : XK) : Cx := (cxOf CX0 P w K mg base lawN d_law.qual (defScope d_law.st) d_law.f cdv A outer s H E).nox
abbrev KeepL (D : Lists) : NP := fun _ G' D' => D' = D ∧ G'.length = 13
/-- the exceptions, made and read -/
theorem law_exc (T : Pe K mg) {cdv : Value} {A : Around} {outer : List Env} {s : Shared} {H : Hp} {E : XK} {p : Addr} {M : List Addr} {D : Lists} {s0 s1 s2 s3 s4 s5 s6 s7 s8 s9 s10 s11 s12 : Slot}
    (hr : Room 10 (A.deeper (envOfC d_law.qual (defScope d_law.st) s.heap.objs.size d_law.f cdv))) : SNs (xL P w K mg base cdv A outer s H E) p M [s0, s1, s2, s3, s4, s5, s6, s7, s8, s9, s10, s11, s12] D (turnS.drop 8) (KeepL D) (fun _ => False) := fun H0 => by
  refine PSs.by_ (pss_cons (ps_par (i := 10) (j := 11) rfl sc_law.nd rfl rfl (by decide) rfl rfl (pa_cons (pe_tooMany T hr (by decide)) (pa_cons (pe_noText T hr (by decide)) pa_nil (by rfl)) (by rfl)) (by rfl) (by rfl))
    (pss_one (ps_if (pt_flds T hr 10 11 rfl rfl (by first | exact Or.inl rfl | exact Or.inr (Or.inl rfl) | exact Or.inr (Or.inr rfl)) (by first | exact Or.inl rfl | exact Or.inr (Or.inl rfl) | exact Or.inr (Or.inr rfl)) (by decide) (by decide) (by decide) (by decide) (by rfl) (by rfl) (by rfl) (by rfl) (by rfl) (by rfl) (by first | exact nomark _ | rfl) (by rfl) (by rfl) (by rfl)) pss_never pss_nil))) fun En t H1 ⟨x0, fr, E1, q, _⟩ => ?_
  intro a dx H2 n1 n2 ne x2 h1 h2 b dy H3 m1 m2 me x3 h3 h4
  refine ⟨_, _, rfl, a, b, dx, dy, ?_, ?_, x3 _ _ h1, x3 _ _ h2, h3, h4, fun H4 x4 => iteF ?_⟩
  · obtain ⟨z, ez, _⟩ := E1.slots.get (i := 10) rfl
    have lt : 10 < t.length := (List.getElem?_eq_some_iff.mp ez).1
    rw [List.getElem?_set_ne (by decide), List.getElem?_set_self lt]
  · obtain ⟨z, ez, _⟩ := E1.slots.get (i := 11) rfl
    have lt : 11 < t.length := (List.getElem?_eq_some_iff.mp ez).1
    rw [List.getElem?_set_self (by rw [List.length_set]; exact lt)]
  · have xx := (x2.trans x3).trans x4
    exact q M [s0, s1, s2, s3, s4, s5, s6, s7, s8, s9, .no, .no, s12] D _ H4 (x0.trans (Stp.ex xx)) fr ((E1.mono xx).withS (((E1.mono xx).slots.set 10 (s := .no) (x := some (.ref a)) True.intro).set 11 (s := .no) (x := some (.ref b)) True.intro)) ⟨rfl, rfl⟩
end
end Gk
end

section
set_option linter.all false
set_option maxRecDepth 100000
namespace Gk
open PySem PySem.Spec PyProof.Rows L2 Evl
section
variable {P : Program} {w : World} {K : PySem.W.Frag} {mg : Str → Option Value} {base : Heap}
set_option maxHeartbeats 8000000 in
theorem law_turn (T : Pe K mg) {cdv : Value} {A : Around} {outer : List Env} {s : Shared} {H : Hp} {E : XK} {p : Addr} {M : List Addr} {D : Lists} {c : PyData} {s3 s4 s5 s6 s7 s8 s9 s10 s11 s12 : Slot}
    (hr : Room 10 (A.deeper (envOfC d_law.qual (defScope d_law.st) s.heap.objs.size d_law.f cdv))) : SNs (xL P w K mg base cdv A outer s H E) p M [.no, .dat c, .ref p, s3, s4, s5, s6, s7, s8, s9, s10, s11, s12] D (turnS.drop 1) (KeepL D) (fun _ => False) := by
  have T0 := T.toTx
  have Tz := T.toPz
  refine sns_cons (sn_par3 (Wa := W_some) (Wb := W_some) (Wc := W_some) 3 4 5 sc_law.nd (pp_pen 2 (fn_law_some T0) hr (by decide) (fun _ _ _ => pds_nil) rfl (fun d h => h)) (pp_pen 2 (fn_law_some T0) hr (by decide) (fun _ _ _ => pds_nil) rfl (fun d h => h)) (pp_pen 2 (fn_law_some T0) hr (by decide) (fun _ _ _ => pds_nil) rfl (fun d h => h)) fun d1 d2 d3 h1 h2 h3 => ?_)
  obtain ⟨mine, rfl, hmine⟩ := h1
  obtain ⟨yours, rfl, hyours⟩ := h2
  obtain ⟨shown, rfl, hshown⟩ := h3
  refine sns_cons (sn_asg 6 sc_law.nd (W := fun d => ∃ m, d = dP m ∧ WhenW m) (pp_call (fn_part_of T0) hr (by decide) (pps_cons (pp_draw T0 2 30 hr (by decide) (by decide) (by decide)) (pps_cons (pp_bin0 (W := WI 1 6) op_add (pp_pd fun _ _ _ => pd_int) (pp_draw T0 2 6 hr (by decide) (by decide) (by decide)) ?_) pps_nil)) ?_) fun d h => ?_)
  · rintro _ _ rfl ⟨r, rfl, r0, r1⟩
    exact ⟨_, _, rfl, rfl, _, rfl, by omega, by omega⟩
  · rintro _ ⟨_, _, rfl, ⟨r, rfl, r0, r1⟩, _, _, rfl, ⟨q, rfl, q0, q1⟩, rfl⟩
    exact ⟨_, .mk (by omega) (nat9 (by omega)), _, rfl, r, q, r0, r1, q0, q1, rfl⟩
  obtain ⟨when_, rfl, hwhen⟩ := h
  refine sns_cons (sn_if0 (ppq_w (ppw_or (q1 := false) (q2 := false) (ppq_not (ppq_val (pp_call (W := fun d => d = .bool true) (fn_law_parts T0) hr (by decide) (pps_cons (pp_pd fun _ _ _ => pd_var 3) (pps_cons (pp_pd fun _ _ _ => pd_var 4) pps_nil)) ?_))) fun _ => ppw_or1 (ppq_not (ppq_val (pp_call (W := fun d => d = .bool true) (fn_law_dials T0) hr (by decide) (pps_cons (pp_pen (W := W_dial) 2 (fn_law_dial T0) hr (by decide) (fun _ _ _ => pds_nil) rfl (fun d h => h)) (pps_cons (pp_pd fun _ _ _ => pd_var 6) (pps_cons (pp_pd fun _ _ _ => pd_var 5) (pps_cons (pp_pd fun _ _ _ => pd_var 3) pps_nil)))) ?_))))) ?_)
  · rintro _ ⟨_, _, rfl, rfl, _, _, rfl, rfl, rfl⟩
    exact ⟨_, .mk (lit_sm hmine) (lit_sm hyours), rfl⟩
  · rintro _ ⟨_, _, rfl, ⟨ck, rfl, hck⟩, _, _, rfl, rfl, _, _, rfl, rfl, _, _, rfl, rfl, rfl⟩
    exact ⟨_, .mk hck ((when_sk hwhen).mono (by decide)) (when_0 hwhen) ((lit_sk hshown).mono (by decide)) ((lit_sk hmine).mono (by decide)), rfl⟩
  refine sns_cons (sn_par (Wa := fun d => ∃ ts, d = dTels ts ∧ TelsW ts) (Wb := WI 1 5) 7 8 sc_law.nd (pp_imp (pp_tupP (pl_lcP (n := 8) (G2 := fun i => [.no, .dat c, .ref p, .dat (dP mine), .dat (dP yours), .dat (dP shown), .dat (dP when_), s7, s8, s9, s10, s11, .dat (.int i)]) (own := [("_law_k", 12)]) (is := [12]) (W := W_told) (fun _ => True) (pp_imp (pp_draw T0 2 9 hr (by decide) (by decide) (by decide)) ?_) T0.range (by decide) ?_ ?_ (by decide) sc_law.nd (blkOk_by rfl)) T0.tuple) ?_) (pp_bin0 (W := WI 1 5) op_add (pp_pd fun _ _ _ => pd_int) (pp_draw T0 2 5 hr (by decide) (by decide) (by decide)) ?_) fun d1 d2 h1 h2 => ?_)
  · rintro _ ⟨r, rfl, r0, r1⟩
    exact ⟨r, rfl, r0, by omega, True.intro⟩
  · exact fun i _ _ _ _ _ => (gd_name 12 sc_law.nd)
  · exact fun i _ _ _ _ _ => (pp_pen 2 (fn_law_told T0) hr (by decide) (fun _ _ _ => pds_nil) rfl (fun d h => h))
  · rintro _ ⟨ds, rfl, ⟨m, em, h8, _⟩, hd⟩
    obtain ⟨ts, rfl, ht⟩ := lists_of (f := dTel) (W := TelW) hd
    rw [List.length_map] at em
    exact ⟨ts, rfl, by omega, ht⟩
  · rintro _ _ rfl ⟨r, rfl, r0, r1⟩
    exact ⟨_, _, rfl, rfl, _, rfl, by omega, by omega⟩
  obtain ⟨ts, rfl, hts⟩ := h1
  obtain ⟨ci, rfl, c1, c5⟩ := h2
  obtain ⟨ck, rfl⟩ : ∃ k : Nat, ci = (k : Int) := ⟨ci.toNat, by omega⟩
  have c1' : 1 ≤ ck := by omega
  have c6' : ck < 6 := by omega
  refine sns_cons (sn_asg 9 sc_law.nd (W := fun d => ∃ row, d = dRow row ∧ RowW row) (pp_cat (pp_pd fun _ _ _ => pd_tup (pds_cons (pd_tup (pds_cons pd_int (pds_cons pd_int pds_nil))) pds_nil)) (pp_tupP (pl_lcP (n := 5) (G2 := fun i => [.no, .dat c, .ref p, .dat (dP mine), .dat (dP yours), .dat (dP shown), .dat (dP when_), .dat (dTels ts), .dat (.int ck), s9, s10, s11, .dat (.int i)]) (own := [("_law_k", 12)]) (is := [12]) (W := W_some) (fun m => m = 5) (pp_imp (pp_pd fun _ _ _ => pd_int) ?_) T0.range (by decide) ?_ ?_ (by decide) sc_law.nd (blkOk_by rfl)) T0.tuple) ?_) fun d h => ?_)
  · rintro _ rfl
    exact ⟨5, rfl, by decide, by decide, rfl⟩
  · exact fun i _ _ _ _ _ => (gd_name 12 sc_law.nd)
  · exact fun i _ _ _ _ _ => (pp_pen 2 (fn_law_some T0) hr (by decide) (fun _ _ _ => pds_nil) rfl (fun d h => h))
  · rintro _ _ rfl ⟨ds, rfl, ⟨m, em, _, rfl⟩, hd⟩
    obtain ⟨r, rfl, hq⟩ := lists_of (f := dP) (W := Lit) hd
    rw [List.length_map] at em
    refine ⟨_, _, rfl, rfl, by rw [List.length_map]; show 1 + r.length ≤ 1000; omega, 0 :: r, rfl, r, rfl, by omega, hq⟩
  obtain ⟨row, rfl, hrow⟩ := h
  obtain ⟨rok, r0⟩ := row_l hrow
  refine sns_cons (sn_if0 (ppq_not (ppq_val (q1 := true) (pp_call (W := fun d => d = .bool true) (fn_law_sheets T0) hr (by decide) (pps_cons (pp_pd fun _ _ _ => pd_var 7) (pps_cons (pp_pd fun _ _ _ => pd_var 9) (pps_cons (pp_pd fun _ _ _ => pd_var 8) pps_nil))) ?_))) ?_)
  · rintro _ ⟨_, _, rfl, rfl, _, _, rfl, rfl, _, _, rfl, rfl, rfl⟩
    exact ⟨_, .mk sz2_l (tels_ok hts) (nn_tels hts.2) rok r0 c1' c6', rfl⟩
  refine sns_cons (sn_if0 (ppq_w (ppw_or (q1 := false) (q2 := false) (ppq_not (ppq_val (q1 := true) (pp_call (W := fun d => d = .bool true) (fn_law_bids T0) hr (by decide) (pps_cons (pp_pd fun _ _ _ => pd_var 7) (pps_cons (pp_pen (W := W_told) 2 (fn_law_told T0) hr (by decide) (fun _ _ _ => pds_nil) rfl (fun d h => h)) (pps_cons (pp_pd fun _ _ _ => pd_var 8) pps_nil))) ?_))) fun _ => ppw_or1 (ppq_not (ppq_val (q1 := true) (pp_call (W := fun d => d = .bool true) (fn_law_posts Tz) hr (by decide) (pps_cons (pp_pd fun _ _ _ => pd_var 6) (pps_cons (pp_pd fun _ _ _ => pd_var 4) pps_nil)) ?_))))) ?_)
  · rintro _ ⟨_, _, rfl, rfl, _, _, rfl, ⟨o, rfl, ho⟩, _, _, rfl, rfl, rfl⟩
    exact ⟨_, .mk (asked_l hts ho c1' c6') (offs_l hts ho), rfl⟩
  · rintro _ ⟨_, _, rfl, rfl, _, _, rfl, rfl, rfl⟩
    exact ⟨_, .mk hwhen hyours, rfl⟩
  exact law_exc T hr
end
end Gk
end

section
set_option linter.all false
set_option maxRecDepth 100000
namespace Gk
open PySem PySem.Spec PyProof.Rows L2 Evl
/-! ## the law, whole -/
def spLaw (K : PySem.W.Frag) : Sp := fun vs H Q _ => ∃ (a : Addr) (ns : List Int), vs = [.ref a] ∧ SqL K H a (ns.map V.int) ∧ ns.length ≤ 63 ∧ ∀ H', Q (.bl true) H'
theorem SlotsOk.forget {K : PySem.W.Frag} {H : Hp} : ∀ {G : List Slot} {t : L2.St}, SlotsOk K H G t → SlotsOk K H (List.replicate G.length .no) t
  | [], _, _ => True.intro
  | _ :: G, _, ⟨x, r, e, _, w⟩ => ⟨x, r, e, True.intro, SlotsOk.forget w⟩
theorem cells_len (ns : List Int) : (cells ns).length ≤ 2 := by
  unfold cells
  rw [List.length_cons, List.length_take]
  omega
section
variable {P : Program} {w : World} {K : PySem.W.Frag} {mg : Str → Option Value} {base : Heap}
abbrev no13 : List Slot := [.no, .no, .no, .no, .no, .no, .no, .no, .no, .no, .no, .no, .no]
/-- one turn of the loop: whatever stood in the slots -/
theorem law_step (T : Pe K mg) {cdv : Value} {A : Around} {outer : List Env} {s : Shared} {H : Hp} {E : XK} {l : Addr} {cs : List PyData} {c : Int}
    (hr : Room 10 (A.deeper (envOfC d_law.qual (defScope d_law.st) s.heap.objs.size d_law.f cdv))) : PSs (xL P w K mg base cdv A outer s H E) turnS (fun En t H1 => ∃ H0 : Hp, Ex H0 H1 ∧ H0 l = none ∧ EnvE K [.no, .dat (.int c), .no, .no, .no, .no, .no, .no, .no, .no, .no, .no, .no] [(l, cs)] t H1 ∧ ∀ t' H', Ex H0 H' → EnvE K no13 [(l, cs)] t' H' → En.nx t' H') := by
  have T0 := T.toTx
  have h1 : ∀ H0, PS (xL P w K mg base cdv A outer s H E) (headS turnS) (tS K H0 [] [.no, .dat (.int c), .no, .no, .no, .no, .no, .no, .no, .no, .no, .no, .no] [(l, cs)] (fun M' G' D' => ∃ p x y z, PenC x y z ∧ M' = [p] ∧ G' = [.no, .dat (.int c), .ref p, .no, .no, .no, .no, .no, .no, .no, .no, .no, .no] ∧ D' = [(p, dPen x y z), (l, cs)]) (fun _ => False)) :=
    sd_asgL 2 sc_law.nd (pl_call (fn_law_pen_of T0) hr (by decide) (pds_cons (pd_var 1) pds_nil) .mk) fun p => ⟨p, _, _, _, ⟨Int.emod_nonneg _ (by decide), Int.lt_trans (Int.emod_lt_of_pos _ (by decide)) (by decide)⟩, rfl, rfl, rfl⟩
  have h1' : PS (xL P w K mg base cdv A outer s H E) (headS turnS) (fun En t H1 => ∃ H0, tS K H0 [] [.no, .dat (.int c), .no, .no, .no, .no, .no, .no, .no, .no, .no, .no, .no] [(l, cs)] (fun M' G' D' => ∃ p x y z, PenC x y z ∧ M' = [p] ∧ G' = [.no, .dat (.int c), .ref p, .no, .no, .no, .no, .no, .no, .no, .no, .no, .no] ∧ D' = [(p, dPen x y z), (l, cs)]) (fun _ => False) En t H1) := ⟨fun p s' t H' En I ⟨H0, z⟩ => (h1 H0).run p s' t H' En I z⟩
  have h2 : PSs (xL P w K mg base cdv A outer s H E) (turnS.drop 1) (fun En t H1 => ∃ p M H0, tSN K p H0 M [.no, .dat (.int c), .ref p, .no, .no, .no, .no, .no, .no, .no, .no, .no, .no] [(l, cs)] (KeepL [(l, cs)]) (fun _ => False) En t H1) := ⟨fun p s' t H' En I ⟨q, M, H0, z⟩ => (law_turn T hr H0).run p s' t H' En I z⟩
  refine PSs.by_ (pss_cons h1' h2) fun En t H1 ⟨H0, x0, l0, E1, q⟩ => ?_
  refine ⟨H0, x0, (fun _ z => nomatch z), E1, fun M' G' D' t2 H2 x2 _ fr E2 z => ?_, fun _ _ _ _ _ f => f.elim⟩
  obtain ⟨p, x, y, z, hc, rfl, rfl, rfl⟩ := z
  have p0 : H0 p = none := fr p (List.mem_singleton.mpr rfl)
  refine ⟨p, [], H2, Stp.refl _ _, (fun _ z => nomatch z), ⟨x, y, z, hc, E2⟩, fun M' G' D' t3 H3 st _ E3 k => ?_, fun _ _ _ _ _ _ _ _ _ f _ => f.elim⟩
  obtain ⟨rfl, hG⟩ := k
  obtain ⟨x', y', z', _, E4⟩ := E3
  refine q t3 H3 (fun b o hb => st b o (x2 _ _ hb) fun m => ?_) ?_
  · rw [List.mem_singleton.mp m, p0] at hb
    cases hb
  · have f := E4.slots.forget
    rw [hG] at f
    exact ⟨f, E4.less.nd, E4.less.lists⟩
end
end Gk
end

section
set_option linter.all false
set_option maxRecDepth 100000
namespace Gk
open PySem PySem.Spec PyProof.Rows L2 Evl
section
variable {P : Program} {w : World} {K : PySem.W.Frag} {mg : Str → Option Value} {base : Heap}
def forT : Stmt → Expr
  | .For t _ _ _ _ => t
  | _ => .Constant .none 0 default
def forI : Stmt → Expr
  | .For _ i _ _ _ => i
  | _ => .Constant .none 0 default
set_option maxHeartbeats 2000000 in
theorem ok_law (T : Pe K mg) {dvs : List V} {fd : FuncData} (F : FunD K d_law.name d_law.qual (defArgs d_law.st) (defBody d_law.st) (defScope d_law.st) dvs [] d_law.f fd) : FnOk P w K mg base CX0 11 d_law.f fd ["_law_script"] (spLaw K) := by
  refine FunD.ok F sc_law (fun vs H Q E h => ?_) (fun cdv A outer s H vs Q E hr h => ?_)
  · obtain ⟨a, ns, rfl, _⟩ := h
    rfl
  · obtain ⟨a, ns, rfl, hS, hl, q⟩ := h
    have hit : PE (xL P w K mg base cdv A outer s H E) (forI (headS (defBody d_law.st))) _ := pe_cells (G := [.ref a, .no, .no, .no, .no, .no, .no, .no, .no, .no, .no, .no, .no]) (D := []) (ns := ns) T.toTx hr (by omega) rfl rfl rfl (by first | exact Or.inl rfl | exact Or.inr (Or.inl rfl) | exact Or.inr (Or.inr rfl)) (by decide) (by decide) (by decide) (by rfl) (by rfl) (by rfl) (by rfl) (by rfl)
    let g : TG := fun x t H1 k => ∃ d G' G2, PGd (xL P w K mg base cdv A outer s H E) [1] G' (forT (headS (defBody d_law.st))) d G2 ∧ tG K [1] G' d G2 x t H1 k
    have hg : PG (xL P w K mg base cdv A outer s H E) (forT (headS (defBody d_law.st))) g := ⟨fun p s t H v u Q I r ⟨d, G', G2, z, q⟩ => z.run p s t H v u Q I r q⟩
    let tb : TS := fun En t H1 => ∃ (l : Addr) (c : Int) (H0 : Hp), Ex H0 H1 ∧ H0 l = none ∧ EnvE K [.no, .dat (.int c), .no, .no, .no, .no, .no, .no, .no, .no, .no, .no, .no] [(l, (cells ns).map .int)] t H1 ∧ ∀ t' H', Ex H0 H' → EnvE K no13 [(l, (cells ns).map .int)] t' H' → En.nx t' H'
    have hbT : PSs (xL P w K mg base cdv A outer s H E) turnS tb := ⟨fun p s' t H' En I ⟨l, c, z⟩ => (law_step T hr).run p s' t H' En I z⟩
    have hb : PSs (xL P w K mg base cdv A outer s H E) (defBody d_law.st) (fun En t H1 => EnvE K [.ref a, .no, .no, .no, .no, .no, .no, .no, .no, .no, .no, .no, .no] [] t H1 ∧ SqL K H1 a (ns.map V.int) ∧ ∀ H', En.rt (.bl true) H') := by
      refine PSs.by_ (pss_cons (ps_for PassesOwn.never rfl (pi_list hit) hg hbT (by intro _; rfl)) (pss_one (ps_ret pe_bl))) fun En t H1 ⟨E1, hq, r⟩ => ?_
      refine ⟨E1, hq, fun l H2 n2 x2 hl2 => ⟨l, rfl, ⟨_, SqL.of hl2⟩, ?_⟩⟩
      have E2 : EnvE K no13 [(l, (cells ns).map .int)] t H2 := by
        have e := (E1.mono x2).more (E1.free n2) hl2 (Fts.of_ints (cells ns))
        exact ⟨e.slots.forget, e.nd, e.lists⟩
      let J : Nat → L2.St → Hp → Prop := fun i t' H' => i ≤ (cells ns).length ∧ Ex H1 H' ∧ EnvE K no13 [(l, (cells ns).map .int)] t' H'
      refine ⟨fun i m t' H' => m = (cells ns).length - i ∧ J i t' H', ⟨(cells ns).length, rfl, Nat.zero_le _, x2, E2⟩, ?_⟩
      rintro i m t' H' ⟨rfl, hle, x1, E'⟩
      obtain ⟨ws, s2, f2⟩ := E'.lists _ (List.mem_cons_self ..)
      have lw : ws.length = (cells ns).length := by
        have := f2.len
        rw [List.length_map] at this
        exact this
      by_cases hlt : i < (cells ns).length
      · refine .inr ⟨⟨ws, ws[i], SqL.of s2, by simp [lw, hlt]⟩, J (i + 1), fun t2 H2 z => ⟨_, by have := z.1; omega, rfl, z⟩, fun v H3 y => ?_⟩
        obtain ⟨rfl, y⟩ := y
        obtain ⟨d, hd', f⟩ := f2.get' (y ws (SqL.of s2))
        rw [List.getElem?_map] at hd'
        obtain ⟨x, hx, rfl⟩ := Option.map_eq_some_iff.mp hd'
        refine ⟨.int x, no13, [.no, .dat (.int x), .no, .no, .no, .no, .no, .no, .no, .no, .no, .no, .no], gd_name 1 sc_law.nd, E'.slots, f, fun t3 S3 _ => ⟨l, x, H1, x1, n2, ⟨S3, E'.nd, E'.lists⟩, fun t4 H4 x4 E4 => ⟨hlt, x4, E4⟩⟩⟩
      · have ei : i = (cells ns).length := by omega
        subst ei
        exact .inl ⟨⟨ws, SqL.of s2, by omega⟩, r H'⟩
    refine ⟨_, hb.nox, ⟨⟨_, _, rfl, rfl, slots_start (ds := []) 12 rfl⟩, List.nodup_nil, fun p hp => (nomatch hp)⟩, hS, fun H' => q H'⟩
end
end Gk
end

section
set_option linter.all false
set_option maxRecDepth 100000
namespace Gk
open PySem PySem.Spec PyProof.Rows L2
/-! ## what the head's run says -/
theorem frG_of {g : Addr → Option Obj} {a : Addr} {o : Obj} (h : g a = some o) : ∀ {l : List Addr}, a ∈ l → (He.frG g l).lookup a = some o
  | [], m => nomatch m
  | b :: r, m => by
    unfold He.frG
    rw [List.filterMap_cons]
    by_cases hab : a = b
    · subst hab
      rw [h]
      simp [List.lookup]
    · have m2 : a ∈ r := by
        rcases List.mem_cons.mp m with e | e
        · exact absurd e hab
        · exact e
      have ih := frG_of h m2
      unfold He.frG at ih
      cases g b with
      | none => exact ih
      | some ob =>
        show ((b, ob) :: _).lookup a = some o
        rw [List.lookup_cons]
        have e : (a == b) = false := beq_eq_false_iff_ne.mpr hab
        rw [e]
        exact ih
theorem gv_rel {u : Value} {v : V} (h : gv u = some v) : RelV v u := by
  unfold gv at h
  split at h
  · cases h
    rfl
  · cases h
    exact ⟨_, rfl⟩
  · cases h
theorem gv_vals : ∀ {us : List Value} {vs : List V}, us.map gv = vs.map some → Vals vs us
  | [], [], _ => .nil
  | [], _ :: _, h => by simp at h
  | _ :: _, [], h => by simp at h
  | u :: us, v :: vs, h => by
    rw [List.map_cons, List.map_cons] at h
    obtain ⟨h1, h2⟩ := List.cons.inj h
    exact .cons (gv_rel h1) (gv_vals h2)
theorem key_str {e : DictEntry} {x : Str} {o : Option V} (h : gk e = (some x, o)) : ∃ t, e.key = .str x t := by
  unfold gk at h
  have h1 := congrArg Prod.fst h
  dsimp only at h1
  split at h1
  · rename_i y t ek
    cases h1
    exact ⟨t, ek⟩
  · cases h1
theorem find_gls {x : Str} : ∀ {es : List DictEntry} {L : List (Option Str × Option V)}, es.map gk = L → L.all (fun p => p.1.isSome) = true → (∀ v, L.find? (fun p => p.1 == some x) = some (some x, some v) → ∃ e, es.find? (·.key.isStr x) = some e ∧ gv e.val = some v) ∧
    (L.find? (fun p => p.1 == some x) = none → es.find? (·.key.isStr x) = none ∧ es.any (·.refKey) = false)
  | [], _, h, _ => by
    subst h
    exact ⟨fun v h => by simp at h, fun _ => ⟨rfl, rfl⟩⟩
  | e :: es, _, h, ha => by
    subst h
    rw [List.map_cons, List.all_cons, Bool.and_eq_true] at ha
    obtain ⟨ih1, ih2⟩ := find_gls (x := x) (es := es) rfl ha.2
    obtain ⟨y, hy⟩ := Option.isSome_iff_exists.mp ha.1
    obtain ⟨t, ek⟩ := key_str (e := e) (x := y) (o := gv e.val) (by rw [← hy] <;> rfl)
    have e1 : ((gk e).1 == some x) = e.key.isStr x := by
      rw [hy, ek]
      show (some y == some x) = (y == x)
      rfl
    rw [List.map_cons, List.find?_cons, List.find?_cons, e1]
    cases q : e.key.isStr x with
    | true =>
      refine ⟨fun v hv => ⟨e, rfl, ?_⟩, fun hv => by simp at hv⟩
      have hv' : gk e = (some x, some v) := by simpa using hv
      exact congrArg Prod.snd hv'
    | false =>
      refine ⟨ih1, fun hn => ?_⟩
      obtain ⟨i1, i2⟩ := ih2 hn
      refine ⟨i1, ?_⟩
      rw [List.any_cons, i2]
      simp [DictEntry.refKey, ek]
theorem gls_str : gls.all (fun p => p.1.isSome) = true := by decide +kernel
theorem gls_nd : gls.all (fun p => match p.2 with
  | some _ => decide (gls.find? (fun q => q.1 == p.1) = some p)
  | none => true) = true := by decide +kernel
theorem fds_as : fds.all (fun d => as.contains d.f && as.contains d.c) = true := by decide +kernel
theorem tups_as : tups.all (fun p => as.contains p.1 && decide (p.2.length ≤ 100)) = true := by decide +kernel
theorem dfls_as : dfls.all (fun p => as.contains p.1 && !p.2.isEmpty) = true := by decide +kernel
section
variable {g : Addr → Option Obj} {h : Heap} {mg : Str → Option Value}
theorem as_at {a : Addr} (h : as.contains a = true) : a ∈ as := by simpa using h
theorem ns_at (c : chk g = due) {x : Str} {v : V} (hm : (some x, some v) ∈ gls) : ∃ u, PySem.W.nsIn (He.frG g as) mainGlobals x = some (some u) ∧ gv u = some v := by
  have c1 : gdict g = some gls := congrArg (fun z : Al => z.1) c
  unfold gdict at c1
  split at c1
  · rename_i oc od es ep osl e3
    have e4 : es.toList.map gk = gls := Option.some.inj c1
    have hf := of_decide_eq_true (List.all_eq_true.mp gls_nd _ hm)
    obtain ⟨e, he, hv⟩ := (find_gls (x := x) e4 gls_str).1 v hf
    refine ⟨e.val, ?_, hv⟩
    unfold PySem.W.nsIn
    have lk : (He.frG g as).lookup mainGlobals = some ⟨oc, od, .dict es ep, osl⟩ := frG_of e3 (as_at (by decide +kernel))
    rw [lk]
    show (match es.toList.find? (·.key.isStr x) with | some e => some (some e.val) | none => if es.toList.any (·.refKey) then none else some none) = _
    rw [he]
  · cases c1
theorem ns_free (c : chk g = due) {x : Str} (hm : gls.find? (fun p => p.1 == some x) = none) : PySem.W.nsIn (He.frG g as) mainGlobals x = some none := by
  have c1 : gdict g = some gls := congrArg (fun z : Al => z.1) c
  unfold gdict at c1
  split at c1
  · rename_i oc od es ep osl e3
    have e4 : es.toList.map gk = gls := Option.some.inj c1
    obtain ⟨h1, h2⟩ := (find_gls (x := x) e4 gls_str).2 hm
    unfold PySem.W.nsIn
    have lk : (He.frG g as).lookup mainGlobals = some ⟨oc, od, .dict es ep, osl⟩ := frG_of e3 (as_at (by decide +kernel))
    rw [lk]
    show (match es.toList.find? (·.key.isStr x) with | some e => some (some e.val) | none => if es.toList.any (·.refKey) then none else some none) = _
    rw [h1, h2]
    rfl
  · cases c1
theorem chk_b (c : chk g = due) : fds.all (Fd.code g) = true ∧ tups.all (tupOk g) = true ∧ dfls.all (dfl1 g) = true ∧ peB (He.frG g as) = true := by
  have c3 : (fds.all (Fd.code g) && tups.all (tupOk g) && dfls.all (dfl1 g) && peB (He.frG g as)) = true := congrArg (fun z : Al => z.2.2) c
  simp only [Bool.and_eq_true] at c3
  exact ⟨c3.1.1.1, c3.1.1.2, c3.1.2, c3.2⟩
theorem fn_at (c : chk g = due) {d : Fd} (hd : d ∈ fds) {dvs : List V} (hv : ∀ dV, d.dv = dV → DflV (He.frG g as) dV dvs) : ∃ fd, FunD (He.frG g as) d.name d.qual (defArgs d.st) (defBody d.st) (defScope d.st) dvs [] d.f fd := by
  have c2 : fds.map (Fd.seen g) = fds.map Fd.want := congrArg (fun z : Al => z.2.1) c
  obtain ⟨i, hi⟩ := List.mem_iff_getElem?.mp hd
  have e2 : (fds.map (Fd.seen g))[i]? = (fds.map Fd.want)[i]? := by rw [c2]
  rw [List.getElem?_map, List.getElem?_map, hi] at e2
  have e : Fd.seen g d = Fd.want d := Option.some.inj e2
  have hc := List.all_eq_true.mp (chk_b c).1 d hd
  have ha := List.all_eq_true.mp fds_as d hd
  rw [Bool.and_eq_true] at ha
  unfold Fd.seen at e
  split at e
  · rename_i oc od fd osl ef
    obtain ⟨n1, n2, n3, n4, n5, n6, n7, n8, n9, n10, n11, n12, n13, n14, n15⟩ := fd
    have lk := frG_of ef (as_at ha.1)
    have e3 : (some (n1, n2, n3, n4, n5, n6, n7, n15, n13, n8) : Seen) = some (d.name, d.qual, defArgs d.st, .stmts (defBody d.st), defScope d.st, mainGlobals, [], builtinsNs, .ref d.c, d.dv) := e
    simp only [Option.some.injEq, Prod.mk.injEq] at e3
    obtain ⟨h1, h2, h3, h4, h5, h6, h7, h8, h9, h10⟩ := e3
    subst h1 h2 h3 h4 h5 h6 h7 h8 h9
    refine ⟨_, ⟨oc, od, n8, n9, n10, n11, n12, .ref d.c, n14, osl, rfl, lk, ?_, hv n8 h10.symm, .inl rfl⟩, ?_⟩
    · unfold Fd.code at hc
      unfold PySem.W.codeIn
      split at hc
      · rename_i oc2 od2 vs osl2 ec
        have lk2 := frG_of ec (as_at ha.2)
        dsimp only
        rw [lk2]
        exact hc
      · cases hc
    · unfold PySem.W.keepIn
      dsimp only
      rw [lk]
  · cases e
end
end Gk
end

section
set_option linter.all false
set_option maxRecDepth 100000
namespace Gk
open PySem PySem.Spec PyProof.Rows L2
section
variable {g : Addr → Option Obj} {h : Heap} {mg : Str → Option Value}
theorem txt_of (X : (He.frG g as).In h) (G : h.Ns mainGlobals mg) (c : chk g = due) : Txt (He.frG g as) mg where
  len := PySem.W.mg_none_of X G (ns_free c (by decide +kernel))
  abs := PySem.W.mg_none_of X G (ns_free c (by decide +kernel))
  tuple := PySem.W.mg_none_of X G (ns_free c (by decide +kernel))
  list := PySem.W.mg_none_of X G (ns_free c (by decide +kernel))
  all := PySem.W.mg_none_of X G (ns_free c (by decide +kernel))
  sorted := PySem.W.mg_none_of X G (ns_free c (by decide +kernel))
  range := PySem.W.mg_none_of X G (ns_free c (by decide +kernel))
  enumerate := PySem.W.mg_none_of X G (ns_free c (by decide +kernel))
  zip := PySem.W.mg_none_of X G (ns_free c (by decide +kernel))
  isinstance := PySem.W.mg_none_of X G (ns_free c (by decide +kernel))
  int := PySem.W.mg_none_of X G (ns_free c (by decide +kernel))
  bool := PySem.W.mg_none_of X G (ns_free c (by decide +kernel))
  str := PySem.W.mg_none_of X G (ns_free c (by decide +kernel))
  max := PySem.W.mg_none_of X G (ns_free c (by decide +kernel))
theorem tx_of (X : (He.frG g as).In h) (G : h.Ns mainGlobals mg) (c : chk g = due) : Tx (He.frG g as) mg where
  toTxt := txt_of X G c
  fn := fun d hd h0 => fn_at c hd fun dV e => .inl ⟨rfl, e.symm.trans h0⟩
  fnD := fun d hd T vs h1 h2 => fn_at c hd fun dV e => by
    have eT : dV = .ref T := e.symm.trans h1
    have ha := List.all_eq_true.mp dfls_as _ h2
    have hb := List.all_eq_true.mp (chk_b c).2.2.1 _ h2
    rw [Bool.and_eq_true] at ha
    unfold dfl1 at hb
    split at hb
    · rename_i oc od its n osl eg
      refine .inr ⟨fun z => ?_, T, _, its.toList, n, eT, frG_of eg (as_at ha.1), by simp, He.relAll_ok hb⟩
      have := ha.2
      rw [z] at this
      cases this
    · cases hb
  glo := fun x v hm => by
    obtain ⟨u, e, r⟩ := ns_at c hm
    exact ⟨u, PySem.W.mg_of X G e, gv_rel r⟩
  tup := fun p hp H => by
    have ha := List.all_eq_true.mp tups_as _ hp
    have hb := List.all_eq_true.mp (chk_b c).2.1 _ hp
    rw [Bool.and_eq_true] at ha
    unfold tupOk at hb
    split at hb
    · rename_i od its n osl eg
      have v := gv_vals (of_decide_eq_true hb)
      have l := v.length
      have l2 : p.2.length ≤ 100 := of_decide_eq_true ha.2
      refine .inr ⟨_, its, n, frG_of eg (as_at ha.1), rfl, rfl, ?_, v⟩
      rw [Array.length_toList] at l
      rw [sizeLine_eq]
      omega
    · cases hb
theorem ba' {a b : Bool} (h : (a && b) = true) : a = true ∧ b = true := Bool.and_eq_true_iff.mp h
theorem pe_of (X : (He.frG g as).In h) (G : h.Ns mainGlobals mg) (c : chk g = due) : Pe (He.frG g as) mg := by
  have b := (chk_b c).2.2.2
  unfold peB at b
  obtain ⟨b1, b⟩ := ba' b
  obtain ⟨b2, b⟩ := ba' b
  obtain ⟨b3, b⟩ := ba' b
  obtain ⟨b4, b⟩ := ba' b
  obtain ⟨b5, b⟩ := ba' b
  obtain ⟨b6, b⟩ := ba' b
  obtain ⟨b7, b⟩ := ba' b
  obtain ⟨b8, b⟩ := ba' b
  obtain ⟨b9, b⟩ := ba' b
  obtain ⟨b10, b11⟩ := ba' b
  obtain ⟨c1, b1⟩ := ba' b1
  obtain ⟨c2, b1⟩ := ba' b1
  obtain ⟨c3, c4⟩ := ba' b1
  obtain ⟨m1, b4⟩ := ba' b4
  obtain ⟨m2, b4⟩ := ba' b4
  obtain ⟨m3, m4⟩ := ba' b4
  obtain ⟨n1, b5⟩ := ba' b5
  obtain ⟨n2, n3⟩ := ba' b5
  obtain ⟨k1, b6⟩ := ba' b6
  obtain ⟨k2, b6⟩ := ba' b6
  obtain ⟨k3, k4⟩ := ba' b6
  obtain ⟨r1, b7⟩ := ba' b7
  obtain ⟨r2, r3⟩ := ba' b7
  obtain ⟨o1, o2⟩ := ba' b8
  obtain ⟨i1, b9⟩ := ba' b9
  obtain ⟨i2, b9⟩ := ba' b9
  obtain ⟨i3, i4⟩ := ba' b9
  obtain ⟨f1, b10⟩ := ba' b10
  obtain ⟨f2, f3⟩ := ba' b10
  obtain ⟨x1, x2⟩ := ba' b11
  exact {
    toTx := tx_of X G c
    cls := ⟨c1, c2, c3, He.eqO_ok c4⟩
    noat := fun x hx => He.eqO_ok (List.all_eq_true.mp b2 x hx)
    meth := fun p hp => by
      have hp' : p ∈ pms := hp
      obtain ⟨h1, h2⟩ := ba' (List.all_eq_true.mp b3 p hp')
      obtain ⟨h3, h4⟩ := ba' h2
      exact ⟨He.eqO_ok h1, h3, h4⟩
    makes := ⟨m1, He.eqO_ok m2, m3, m4⟩
    ne := He.eqO_ok n1
    ob := of_decide_eq_true n2
    kit := of_decide_eq_true n3
    cl := He.eqO_ok k1
    gs := He.eqO_ok k2
    tk := of_decide_eq_true k3
    mo := of_decide_eq_true k4
    ckR := r1
    ckG := He.eqO_ok r2
    ckI := ckB_ok r3
    tm := oexB_ok o1
    nt := oexB_ok o2
    tmI := He.eqO_ok i1
    ntI := He.eqO_ok i2
    tmT := of_decide_eq_true i3
    ntT := of_decide_eq_true i4
    tm1 := He.eqO_ok f1
    tm2 := He.eqO_ok f2
    nt1 := He.eqO_ok f3
    tmX := xfB_ok x1
    ntX := xfB_ok x2 }
end
end Gk
end

section
set_option linter.all false
set_option maxRecDepth 100000
set_option maxHeartbeats 0
namespace Gk
open PySem PySem.Spec PyProof.Rows L2
theorem facts {P : Program} {w : World} {g : Addr → Option Obj} {h : Heap} {mg : Str → Option Value} {f : Addr} (X : (He.frG g as).In h) (G : h.Ns mainGlobals mg) (hfa : mg ("law" : Str) = some (.ref f)) (c : chk g = due) :
    ∃ fd : FuncData, (∀ (s : Shared) (v : Value), BindsTo s fd ⟨[v], []⟩ [("_law_script", v)]) ∧ ∀ base : Heap, FnOk P w (He.frG g as) mg base CX0 11 f fd ["_law_script"] (spLaw (He.frG g as)) := by
  have T := pe_of X G c
  obtain ⟨fd, F⟩ := T.fn d_law m_law rfl
  have e := hfa.symm.trans (T.at_ g_law)
  cases e
  have b := FunD.bindsA (ps := ["_law_script"]) F fun _ _ _ _ _ _ us hl => match us, hl with | [_], _ => rfl
  exact ⟨fd, fun s v => b s [v] rfl, fun base => ok_law T F⟩
end Gk
open PySem PySem.W PySem.Calls PyProof.Rows
theorem PySem.Challenge.cw_gunclocks_k66_whole_called_by_names_holds : PySem.Challenge.rw_gunclocks_k66_whole_called_by_names.Holds := by
  w_on; o_law
  refine HandSHeadRun.head_any (r := OpenLaw.row PySem.Challenge.rw_gunclocks_k66_whole_called_by_names) (q := view (OpenLaw.row PySem.Challenge.rw_gunclocks_k66_whole_called_by_names).prog [138]) (H := Gk.hk) (ob := Gk.ob) (M := 20000) (loose := Gk.loose) (d := HandSHeadRun.topDef (OpenLaw.row PySem.Challenge.rw_gunclocks_k66_whole_called_by_names).prog 138) (kwd := []) Gk.ob_eq
    (by kernel_rfl) (fun s => by kernel_rfl) Gk.run (by kernel_rfl) (by kernel_rfl) (by kernel_rfl) (by rfl) (by first | assumption | decide +kernel) (by decide +kernel) ⟨rfl, rfl, rfl, rfl, rfl, by decide +kernel⟩ ?hw ?hc
  case hw => w_witness2
  case hc =>
    refine L2.walk_ofE (l := PySem.Challenge.rw_gunclocks_k66_whole_called_by_names) (n := 63) (k := 11) (x := "_law_script") (CX := L2.CX0) rfl (by decide) (by kernel_rfl) ⟨rfl, by decide, by decide⟩ ?F (fun _ _ _ _ z => z)
    intro w mg fa h Y G hmg0
    obtain ⟨g, KX, c⟩ := Y
    have hmg : mg ("law" : PySem.Str) = some (.ref fa) := by
      have e : (HandSHeadRun.topDef (OpenLaw.row PySem.Challenge.rw_gunclocks_k66_whole_called_by_names).prog 138).name = ("law" : PySem.Str) := by kernel_rfl
      rw [← e]
      exact hmg0
    obtain ⟨fd, hb, hF⟩ := Gk.facts (P := (PySem.Challenge.rw_gunclocks_k66_whole_called_by_names).prog) (w := w) KX G hmg c
    exact ⟨He.frG g Gk.as, fd, Gk.spLaw (He.frG g Gk.as), KX, hb, fun H a ns hl _ hS => ⟨a, ns, rfl, hS, hl, fun _ => rfl⟩, fun base _ _ => hF base⟩
end
