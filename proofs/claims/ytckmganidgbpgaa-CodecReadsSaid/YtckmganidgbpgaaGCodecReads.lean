/- WRITTEN BY PROGRAM (dec.py): for each Go function the clean formula F, the call's contract C, and the proof S that F gives C. -/
import Derived.Test.YtckmganidgbpgaaRows
import Derived.Test.YtckmganidgbpgaaGF
namespace Go.Proofs.Ytckmganidgbpgaa
open Go
set_option linter.unusedVariables false

/-! ### towpath/towpathlaw02.CodecReads (function 3) -/
noncomputable def c_towpathlaw02_CodecReads_0 : Code := (Try.f3.body).getD Code.skip
noncomputable def c_towpathlaw02_CodecReads_1 : Code := Code.l c_towpathlaw02_CodecReads_0
noncomputable def r_towpathlaw02_CodecReads_1 : Array Oper := Code.ops c_towpathlaw02_CodecReads_1
noncomputable def c_towpathlaw02_CodecReads_3 : Code := Code.r c_towpathlaw02_CodecReads_0
noncomputable def c_towpathlaw02_CodecReads_4 : Code := Code.l c_towpathlaw02_CodecReads_3
noncomputable def c_towpathlaw02_CodecReads_5 : Code := Code.l c_towpathlaw02_CodecReads_4
noncomputable def r_towpathlaw02_CodecReads_5 : Array Oper := Code.ops c_towpathlaw02_CodecReads_5
noncomputable def c_towpathlaw02_CodecReads_7 : Code := Code.r c_towpathlaw02_CodecReads_4
noncomputable def c_towpathlaw02_CodecReads_8 : Code := Code.l c_towpathlaw02_CodecReads_7
noncomputable def c_towpathlaw02_CodecReads_9 : Code := Code.l c_towpathlaw02_CodecReads_8
noncomputable def r_towpathlaw02_CodecReads_9 : Array Oper := Code.ops c_towpathlaw02_CodecReads_9
noncomputable def c_towpathlaw02_CodecReads_11 : Code := Code.r c_towpathlaw02_CodecReads_8
noncomputable def c_towpathlaw02_CodecReads_12 : Code := Code.r c_towpathlaw02_CodecReads_7
noncomputable def c_towpathlaw02_CodecReads_13 : Code := Code.r c_towpathlaw02_CodecReads_3
noncomputable def c_towpathlaw02_CodecReads_14 : Code := Code.l c_towpathlaw02_CodecReads_13
noncomputable def r_towpathlaw02_CodecReads_14 : Array Oper := Code.ops c_towpathlaw02_CodecReads_14
noncomputable def c_towpathlaw02_CodecReads_16 : Code := Code.r c_towpathlaw02_CodecReads_13
noncomputable def c_towpathlaw02_CodecReads_17 : Code := Code.l c_towpathlaw02_CodecReads_16
noncomputable def r_towpathlaw02_CodecReads_17 : Array Oper := Code.ops c_towpathlaw02_CodecReads_17
noncomputable def c_towpathlaw02_CodecReads_19 : Code := Code.r c_towpathlaw02_CodecReads_16
noncomputable def c_towpathlaw02_CodecReads_20 : Code := Code.l c_towpathlaw02_CodecReads_19
noncomputable def c_towpathlaw02_CodecReads_21 : Code := Code.l c_towpathlaw02_CodecReads_20
noncomputable def r_towpathlaw02_CodecReads_21 : Array Oper := Code.ops c_towpathlaw02_CodecReads_21
noncomputable def c_towpathlaw02_CodecReads_23 : Code := Code.r c_towpathlaw02_CodecReads_20
noncomputable def c_towpathlaw02_CodecReads_24 : Code := Code.l c_towpathlaw02_CodecReads_23
noncomputable def c_towpathlaw02_CodecReads_25 : Code := Code.l c_towpathlaw02_CodecReads_24
noncomputable def r_towpathlaw02_CodecReads_25 : Array Oper := Code.ops c_towpathlaw02_CodecReads_25
noncomputable def c_towpathlaw02_CodecReads_27 : Code := Code.r c_towpathlaw02_CodecReads_24
noncomputable def c_towpathlaw02_CodecReads_28 : Code := Code.r c_towpathlaw02_CodecReads_23
noncomputable def c_towpathlaw02_CodecReads_29 : Code := Code.r c_towpathlaw02_CodecReads_19
noncomputable def c_towpathlaw02_CodecReads_30 : Code := Code.l c_towpathlaw02_CodecReads_29
noncomputable def c_towpathlaw02_CodecReads_31 : Code := Code.l c_towpathlaw02_CodecReads_30
noncomputable def r_towpathlaw02_CodecReads_31 : Array Oper := Code.ops c_towpathlaw02_CodecReads_31
noncomputable def c_towpathlaw02_CodecReads_33 : Code := Code.r c_towpathlaw02_CodecReads_30
noncomputable def c_towpathlaw02_CodecReads_34 : Code := Code.l c_towpathlaw02_CodecReads_33
noncomputable def c_towpathlaw02_CodecReads_35 : Code := Code.l c_towpathlaw02_CodecReads_34
noncomputable def c_towpathlaw02_CodecReads_36 : Code := Code.l c_towpathlaw02_CodecReads_35
noncomputable def c_towpathlaw02_CodecReads_37 : Code := Code.l c_towpathlaw02_CodecReads_36
noncomputable def r_towpathlaw02_CodecReads_37 : Array Oper := Code.ops c_towpathlaw02_CodecReads_37
noncomputable def c_towpathlaw02_CodecReads_39 : Code := Code.r c_towpathlaw02_CodecReads_36
noncomputable def c_towpathlaw02_CodecReads_40 : Code := Code.l c_towpathlaw02_CodecReads_39
noncomputable def c_towpathlaw02_CodecReads_41 : Code := Code.r c_towpathlaw02_CodecReads_39
noncomputable def c_towpathlaw02_CodecReads_42 : Code := Code.r c_towpathlaw02_CodecReads_35
noncomputable def c_towpathlaw02_CodecReads_43 : Code := Code.l c_towpathlaw02_CodecReads_42
noncomputable def c_towpathlaw02_CodecReads_44 : Code := Code.l c_towpathlaw02_CodecReads_43
noncomputable def r_towpathlaw02_CodecReads_44 : Array Oper := Code.ops c_towpathlaw02_CodecReads_44
noncomputable def c_towpathlaw02_CodecReads_46 : Code := Code.r c_towpathlaw02_CodecReads_42
noncomputable def r_towpathlaw02_CodecReads_46 : Array Oper := Code.ops c_towpathlaw02_CodecReads_46
noncomputable def c_towpathlaw02_CodecReads_48 : Code := Code.r c_towpathlaw02_CodecReads_29
noncomputable def c_towpathlaw02_CodecReads_49 : Code := Code.l c_towpathlaw02_CodecReads_48
noncomputable def r_towpathlaw02_CodecReads_49 : Array Oper := Code.ops c_towpathlaw02_CodecReads_49
noncomputable def c_towpathlaw02_CodecReads_51 : Code := Code.r c_towpathlaw02_CodecReads_48
noncomputable def c_towpathlaw02_CodecReads_52 : Code := Code.l c_towpathlaw02_CodecReads_51
noncomputable def r_towpathlaw02_CodecReads_52 : Array Oper := Code.ops c_towpathlaw02_CodecReads_52
noncomputable def c_towpathlaw02_CodecReads_54 : Code := Code.r c_towpathlaw02_CodecReads_51
noncomputable def c_towpathlaw02_CodecReads_55 : Code := Code.l c_towpathlaw02_CodecReads_54
noncomputable def r_towpathlaw02_CodecReads_55 : Array Oper := Code.ops c_towpathlaw02_CodecReads_55
noncomputable def c_towpathlaw02_CodecReads_57 : Code := Code.r c_towpathlaw02_CodecReads_54
noncomputable def c_towpathlaw02_CodecReads_58 : Code := Code.l c_towpathlaw02_CodecReads_57
noncomputable def c_towpathlaw02_CodecReads_59 : Code := Code.l c_towpathlaw02_CodecReads_58
noncomputable def r_towpathlaw02_CodecReads_59 : Array Oper := Code.ops c_towpathlaw02_CodecReads_59
noncomputable def c_towpathlaw02_CodecReads_61 : Code := Code.r c_towpathlaw02_CodecReads_58
noncomputable def c_towpathlaw02_CodecReads_62 : Code := Code.l c_towpathlaw02_CodecReads_61
noncomputable def c_towpathlaw02_CodecReads_63 : Code := Code.l c_towpathlaw02_CodecReads_62
noncomputable def c_towpathlaw02_CodecReads_64 : Code := Code.l c_towpathlaw02_CodecReads_63
noncomputable def c_towpathlaw02_CodecReads_65 : Code := Code.l c_towpathlaw02_CodecReads_64
noncomputable def r_towpathlaw02_CodecReads_65 : Array Oper := Code.ops c_towpathlaw02_CodecReads_65
noncomputable def c_towpathlaw02_CodecReads_67 : Code := Code.r c_towpathlaw02_CodecReads_64
noncomputable def c_towpathlaw02_CodecReads_68 : Code := Code.l c_towpathlaw02_CodecReads_67
noncomputable def c_towpathlaw02_CodecReads_69 : Code := Code.r c_towpathlaw02_CodecReads_67
noncomputable def c_towpathlaw02_CodecReads_70 : Code := Code.r c_towpathlaw02_CodecReads_63
noncomputable def c_towpathlaw02_CodecReads_71 : Code := Code.l c_towpathlaw02_CodecReads_70
noncomputable def c_towpathlaw02_CodecReads_72 : Code := Code.l c_towpathlaw02_CodecReads_71
noncomputable def c_towpathlaw02_CodecReads_73 : Code := Code.l c_towpathlaw02_CodecReads_72
noncomputable def r_towpathlaw02_CodecReads_73 : Array Oper := Code.ops c_towpathlaw02_CodecReads_73
noncomputable def c_towpathlaw02_CodecReads_75 : Code := Code.r c_towpathlaw02_CodecReads_72
noncomputable def c_towpathlaw02_CodecReads_76 : Code := Code.l c_towpathlaw02_CodecReads_75
noncomputable def r_towpathlaw02_CodecReads_76 : Array Oper := Code.ops c_towpathlaw02_CodecReads_76
noncomputable def c_towpathlaw02_CodecReads_78 : Code := Code.r c_towpathlaw02_CodecReads_75
noncomputable def c_towpathlaw02_CodecReads_79 : Code := Code.l c_towpathlaw02_CodecReads_78
noncomputable def r_towpathlaw02_CodecReads_79 : Array Oper := Code.ops c_towpathlaw02_CodecReads_79
noncomputable def c_towpathlaw02_CodecReads_81 : Code := Code.r c_towpathlaw02_CodecReads_78
noncomputable def c_towpathlaw02_CodecReads_82 : Code := Code.l c_towpathlaw02_CodecReads_81
noncomputable def r_towpathlaw02_CodecReads_82 : Array Oper := Code.ops c_towpathlaw02_CodecReads_82
noncomputable def c_towpathlaw02_CodecReads_84 : Code := Code.r c_towpathlaw02_CodecReads_81
noncomputable def c_towpathlaw02_CodecReads_85 : Code := Code.l c_towpathlaw02_CodecReads_84
noncomputable def r_towpathlaw02_CodecReads_85 : Array Oper := Code.ops c_towpathlaw02_CodecReads_85
noncomputable def c_towpathlaw02_CodecReads_87 : Code := Code.r c_towpathlaw02_CodecReads_84
noncomputable def c_towpathlaw02_CodecReads_88 : Code := Code.l c_towpathlaw02_CodecReads_87
noncomputable def c_towpathlaw02_CodecReads_89 : Code := Code.l c_towpathlaw02_CodecReads_88
noncomputable def r_towpathlaw02_CodecReads_89 : Array Oper := Code.ops c_towpathlaw02_CodecReads_89
noncomputable def c_towpathlaw02_CodecReads_91 : Code := Code.r c_towpathlaw02_CodecReads_88
noncomputable def c_towpathlaw02_CodecReads_92 : Code := Code.r c_towpathlaw02_CodecReads_87
noncomputable def c_towpathlaw02_CodecReads_93 : Code := Code.r c_towpathlaw02_CodecReads_70
noncomputable def r_towpathlaw02_CodecReads_93 : Array Oper := Code.ops c_towpathlaw02_CodecReads_93
noncomputable def c_towpathlaw02_CodecReads_95 : Code := Code.r c_towpathlaw02_CodecReads_57
noncomputable def c_towpathlaw02_CodecReads_96 : Code := Code.l c_towpathlaw02_CodecReads_95
noncomputable def r_towpathlaw02_CodecReads_96 : Array Oper := Code.ops c_towpathlaw02_CodecReads_96
noncomputable def c_towpathlaw02_CodecReads_98 : Code := Code.r c_towpathlaw02_CodecReads_95
noncomputable def c_towpathlaw02_CodecReads_99 : Code := Code.l c_towpathlaw02_CodecReads_98
noncomputable def r_towpathlaw02_CodecReads_99 : Array Oper := Code.ops c_towpathlaw02_CodecReads_99
noncomputable def c_towpathlaw02_CodecReads_101 : Code := Code.r c_towpathlaw02_CodecReads_98
def o_towpathlaw02_CodecReads_73 : List Nat := [0, 1, 2, 3, 4, 5, 6, 7, 8, 9, 10, 11, 12]
def o_towpathlaw02_CodecReads_73_1 : List Nat := [0, 1, 2, 3, 4, 5, 6, 7, 8, 9, 10, 11, 12]
def o_towpathlaw02_CodecReads_73_2 : List Nat := [0, 1, 2, 3, 4, 5, 10, 6, 7, 8, 9, 11, 12]
def o_towpathlaw02_CodecReads_76 : List Nat := [0, 1, 2, 3, 4, 5, 6, 7, 8, 9, 10, 11, 12]
def o_towpathlaw02_CodecReads_76_4 : List Nat := [0, 1, 2, 3, 4, 5, 6, 7, 8, 9, 10, 11, 12]
def o_towpathlaw02_CodecReads_76_5 : List Nat := [0, 1, 2, 3, 4, 5, 10, 6, 7, 8, 9, 11, 12]
def o_towpathlaw02_CodecReads_79 : List Nat := [0, 2, 3, 4, 5, 6, 1, 7, 8, 9, 10, 11, 12, 13]
def o_towpathlaw02_CodecReads_79_7 : List Nat := [0, 2, 3, 4, 5, 6, 1, 7, 8, 9, 10, 11, 12, 13]
def o_towpathlaw02_CodecReads_79_8 : List Nat := [0, 2, 3, 4, 5, 6, 1, 7, 8, 9, 10, 11, 12, 13]
def o_towpathlaw02_CodecReads_79_9 : List Nat := [0, 2, 3, 4, 5, 6, 1, 11, 7, 8, 9, 10, 12, 13]
def o_towpathlaw02_CodecReads_79_10 : List Nat := [0, 2, 3, 4, 5, 6, 11, 1, 7, 8, 9, 10, 12, 13]
def o_towpathlaw02_CodecReads_85 : List Nat := [0, 1, 2, 3, 4, 5, 6, 7, 8, 9, 10, 11, 13, 12, 14, 15, 16, 17, 18, 20, 19, 21, 22, 23]
def o_towpathlaw02_CodecReads_79_14 : List Nat := [0, 2, 3, 4, 5, 6, 1, 7, 8, 9, 10, 11, 12, 13]
def o_towpathlaw02_CodecReads_79_15 : List Nat := [0, 2, 3, 4, 5, 6, 1, 7, 8, 9, 10, 11, 12, 13]
def o_towpathlaw02_CodecReads_79_16 : List Nat := [0, 2, 3, 4, 5, 6, 1, 11, 7, 8, 9, 10, 12, 13]
def o_towpathlaw02_CodecReads_79_17 : List Nat := [0, 2, 3, 4, 5, 6, 11, 1, 7, 8, 9, 10, 12, 13]
def o_towpathlaw02_CodecReads_76_19 : List Nat := [0, 1, 2, 3, 4, 5, 6, 7, 8, 9, 10, 11, 12]
def o_towpathlaw02_CodecReads_76_20 : List Nat := [0, 1, 2, 3, 4, 5, 10, 6, 7, 8, 9, 11, 12]
def o_towpathlaw02_CodecReads_73_22 : List Nat := [0, 1, 2, 3, 4, 5, 6, 7, 8, 9, 10, 11, 12]
def o_towpathlaw02_CodecReads_73_23 : List Nat := [0, 1, 2, 3, 4, 5, 10, 6, 7, 8, 9, 11, 12]
def o_towpathlaw02_CodecReads_73_25 : List Nat := [0, 1, 2, 3, 4, 5, 6, 7, 8, 9, 10, 11, 12]
def o_towpathlaw02_CodecReads_73_26 : List Nat := [0, 1, 2, 3, 4, 5, 10, 6, 7, 8, 9, 11, 12]
def o_towpathlaw02_CodecReads_76_28 : List Nat := [0, 1, 2, 3, 4, 5, 6, 7, 8, 9, 10, 11, 12]
def o_towpathlaw02_CodecReads_76_29 : List Nat := [0, 1, 2, 3, 4, 5, 10, 6, 7, 8, 9, 11, 12]
def o_towpathlaw02_CodecReads_79_31 : List Nat := [0, 2, 3, 4, 5, 6, 1, 7, 8, 9, 10, 11, 12, 13]
def o_towpathlaw02_CodecReads_79_32 : List Nat := [0, 2, 3, 4, 5, 6, 1, 7, 8, 9, 10, 11, 12, 13]
def o_towpathlaw02_CodecReads_79_33 : List Nat := [0, 2, 3, 4, 5, 6, 1, 11, 7, 8, 9, 10, 12, 13]
def o_towpathlaw02_CodecReads_79_34 : List Nat := [0, 2, 3, 4, 5, 6, 11, 1, 7, 8, 9, 10, 12, 13]
def o_towpathlaw02_CodecReads_79_38 : List Nat := [0, 2, 3, 4, 5, 6, 1, 7, 8, 9, 10, 11, 12, 13]
def o_towpathlaw02_CodecReads_79_39 : List Nat := [0, 2, 3, 4, 5, 6, 1, 7, 8, 9, 10, 11, 12, 13]
def o_towpathlaw02_CodecReads_79_40 : List Nat := [0, 2, 3, 4, 5, 6, 1, 11, 7, 8, 9, 10, 12, 13]
def o_towpathlaw02_CodecReads_79_41 : List Nat := [0, 2, 3, 4, 5, 6, 11, 1, 7, 8, 9, 10, 12, 13]
def o_towpathlaw02_CodecReads_76_43 : List Nat := [0, 1, 2, 3, 4, 5, 6, 7, 8, 9, 10, 11, 12]
def o_towpathlaw02_CodecReads_76_44 : List Nat := [0, 1, 2, 3, 4, 5, 10, 6, 7, 8, 9, 11, 12]
def o_towpathlaw02_CodecReads_73_46 : List Nat := [0, 1, 2, 3, 4, 5, 6, 7, 8, 9, 10, 11, 12]
def o_towpathlaw02_CodecReads_73_47 : List Nat := [0, 1, 2, 3, 4, 5, 10, 6, 7, 8, 9, 11, 12]
def o_towpathlaw02_CodecReads_73_49 : List Nat := [0, 1, 2, 3, 4, 5, 6, 7, 8, 9, 10, 11, 12]
def o_towpathlaw02_CodecReads_73_50 : List Nat := [0, 1, 2, 3, 4, 5, 10, 6, 7, 8, 9, 11, 12]
def o_towpathlaw02_CodecReads_76_52 : List Nat := [0, 1, 2, 3, 4, 5, 6, 7, 8, 9, 10, 11, 12]
def o_towpathlaw02_CodecReads_76_53 : List Nat := [0, 1, 2, 3, 4, 5, 10, 6, 7, 8, 9, 11, 12]
def o_towpathlaw02_CodecReads_79_55 : List Nat := [0, 2, 3, 4, 5, 6, 1, 7, 8, 9, 10, 11, 12, 13]
def o_towpathlaw02_CodecReads_79_56 : List Nat := [0, 2, 3, 4, 5, 6, 1, 7, 8, 9, 10, 11, 12, 13]
def o_towpathlaw02_CodecReads_79_57 : List Nat := [0, 2, 3, 4, 5, 6, 1, 11, 7, 8, 9, 10, 12, 13]
def o_towpathlaw02_CodecReads_79_58 : List Nat := [0, 2, 3, 4, 5, 6, 11, 1, 7, 8, 9, 10, 12, 13]
def o_towpathlaw02_CodecReads_79_62 : List Nat := [0, 2, 3, 4, 5, 6, 1, 7, 8, 9, 10, 11, 12, 13]
def o_towpathlaw02_CodecReads_79_63 : List Nat := [0, 2, 3, 4, 5, 6, 1, 7, 8, 9, 10, 11, 12, 13]
def o_towpathlaw02_CodecReads_79_64 : List Nat := [0, 2, 3, 4, 5, 6, 1, 11, 7, 8, 9, 10, 12, 13]
def o_towpathlaw02_CodecReads_79_65 : List Nat := [0, 2, 3, 4, 5, 6, 11, 1, 7, 8, 9, 10, 12, 13]
def o_towpathlaw02_CodecReads_76_67 : List Nat := [0, 1, 2, 3, 4, 5, 6, 7, 8, 9, 10, 11, 12]
def o_towpathlaw02_CodecReads_76_68 : List Nat := [0, 1, 2, 3, 4, 5, 10, 6, 7, 8, 9, 11, 12]
def o_towpathlaw02_CodecReads_73_70 : List Nat := [0, 1, 2, 3, 4, 5, 6, 7, 8, 9, 10, 11, 12]
def o_towpathlaw02_CodecReads_73_71 : List Nat := [0, 1, 2, 3, 4, 5, 10, 6, 7, 8, 9, 11, 12]
def o_towpathlaw02_CodecReads_73_73 : List Nat := [0, 1, 2, 3, 4, 5, 6, 7, 8, 9, 10, 11, 12]
def o_towpathlaw02_CodecReads_73_74 : List Nat := [0, 1, 2, 3, 4, 5, 10, 6, 7, 8, 9, 11, 12]
def o_towpathlaw02_CodecReads_76_76 : List Nat := [0, 1, 2, 3, 4, 5, 6, 7, 8, 9, 10, 11, 12]
def o_towpathlaw02_CodecReads_76_77 : List Nat := [0, 1, 2, 3, 4, 5, 10, 6, 7, 8, 9, 11, 12]
def o_towpathlaw02_CodecReads_79_79 : List Nat := [0, 2, 3, 4, 5, 6, 1, 7, 8, 9, 10, 11, 12, 13]
def o_towpathlaw02_CodecReads_79_80 : List Nat := [0, 2, 3, 4, 5, 6, 1, 7, 8, 9, 10, 11, 12, 13]
def o_towpathlaw02_CodecReads_79_81 : List Nat := [0, 2, 3, 4, 5, 6, 1, 11, 7, 8, 9, 10, 12, 13]
def o_towpathlaw02_CodecReads_79_82 : List Nat := [0, 2, 3, 4, 5, 6, 11, 1, 7, 8, 9, 10, 12, 13]
def o_towpathlaw02_CodecReads_79_86 : List Nat := [0, 2, 3, 4, 5, 6, 1, 7, 8, 9, 10, 11, 12, 13]
def o_towpathlaw02_CodecReads_79_87 : List Nat := [0, 2, 3, 4, 5, 6, 1, 7, 8, 9, 10, 11, 12, 13]
def o_towpathlaw02_CodecReads_79_88 : List Nat := [0, 2, 3, 4, 5, 6, 1, 11, 7, 8, 9, 10, 12, 13]
def o_towpathlaw02_CodecReads_79_89 : List Nat := [0, 2, 3, 4, 5, 6, 11, 1, 7, 8, 9, 10, 12, 13]
def o_towpathlaw02_CodecReads_76_91 : List Nat := [0, 1, 2, 3, 4, 5, 6, 7, 8, 9, 10, 11, 12]
def o_towpathlaw02_CodecReads_76_92 : List Nat := [0, 1, 2, 3, 4, 5, 10, 6, 7, 8, 9, 11, 12]
def o_towpathlaw02_CodecReads_73_94 : List Nat := [0, 1, 2, 3, 4, 5, 6, 7, 8, 9, 10, 11, 12]
def o_towpathlaw02_CodecReads_73_95 : List Nat := [0, 1, 2, 3, 4, 5, 10, 6, 7, 8, 9, 11, 12]
def o_towpathlaw02_CodecReads_99 : List Nat := [0, 2, 1, 3, 4, 5, 6, 8, 7, 9, 10, 11, 12, 13, 14, 15, 16, 17, 18, 19, 20, 21, 22, 23, 24, 25, 26, 27, 28, 29, 30, 31, 32]

set_option maxRecDepth 100000 in
set_option maxHeartbeats 4000000 in
theorem S_towpathlaw02_CodecReads {b_ : Slc} {script : Slc} {w : World} {R : Bool → World → Prop} (h : F_towpathlaw02_CodecReads b_ script R w) : C_towpathlaw02_CodecReads b_ script w R := by
  unfold F_towpathlaw02_CodecReads at h
  unfold C_towpathlaw02_CodecReads
  refine Calls.mono (calls_of_wpE (args := [Value.slice b_.ptr b_.len b_.cap, Value.slice script.ptr script.len script.cap]) (R := fun v w' => ∃ (r0 : Bool), v = Value.bool r0 ∧ R r0 w') Try.func3 (c := c_towpathlaw02_CodecReads_0) (by kernel_rfl) 144 (by kernel_rfl) (by kernel_rfl) [(0, Value.slice b_.ptr b_.len b_.cap), (1, Value.slice script.ptr script.len script.cap)] (by kernel_rfl) ?_) ?_
  · refine wpE_seq (x := c_towpathlaw02_CodecReads_1) (y := c_towpathlaw02_CodecReads_3) (by kernel_rfl) ?_
    refine wpE_region (id := 0) (ops := r_towpathlaw02_CodecReads_1) (by kernel_rfl) ?_
    refine reg_run [.plain] 1 [(0, [], Value.slice b_.ptr b_.len b_.cap), (1, [], Value.slice script.ptr script.len script.cap)] (by kernel_rfl) (by kernel_rfl) ?_
    refine reg_end [(0, Value.slice b_.ptr b_.len b_.cap), (1, Value.slice script.ptr script.len script.cap)] (by kernel_rfl) (by kernel_rfl) ?_
    change WpE _ _ c_towpathlaw02_CodecReads_3 _ _ _
    refine wpE_seq (x := c_towpathlaw02_CodecReads_4) (y := c_towpathlaw02_CodecReads_13) (by kernel_rfl) ?_
    refine wpE_seq_cut (x := c_towpathlaw02_CodecReads_5) (y := c_towpathlaw02_CodecReads_7) (by kernel_rfl) (fun l w => ∃ (t26 : Bool), l = [(0, Value.slice b_.ptr b_.len b_.cap), (1, Value.slice script.ptr script.len script.cap), (26, Value.bool t26)] ∧ F_towpathlaw02_CodecReads_k0 b_ script R t26 w) ?_ ?_
    · refine wpE_region (id := 1) (ops := r_towpathlaw02_CodecReads_5) (by kernel_rfl) ?_
      refine reg_run [.plain] 1 [(0, [], Value.slice b_.ptr b_.len b_.cap), (1, [], Value.slice script.ptr script.len script.cap), (19, [], Value.slice script.ptr script.len script.cap)] (by kernel_rfl) (by kernel_rfl) ?_
      refine reg_enter (op := (Go.Op.call (Go.Call.mk (Go.Callee.value (Go.Operand.func 11)) #[(Go.Operand.tmp 19)] #[23]))) (ty := 4) (dst := some 20) 11 #[Value.slice script.ptr script.len script.cap] (by kernel_rfl) (fun ww => by kernel_rfl) (Calls.mono h ?_)
      rintro _ w59 ⟨v20, rfl, h⟩
      refine ⟨_, rfl, ?_⟩
      refine reg_run [.plain, .plain, .plain] 5 [(0, [], Value.slice b_.ptr b_.len b_.cap), (1, [], Value.slice script.ptr script.len script.cap), (21, [], Value.bool v20), (23, [(21, false)], Value.int .i64 ((b_.len : Nat) : Int))] (by kernel_rfl) (by kernel_rfl) ?_
      refine reg_split 21 v20 (by kernel_rfl) (fun hb => ?_) (fun hb => ?_)
      · replace h := h.1 hb
        refine reg_run [] 5 [(0, [], Value.slice b_.ptr b_.len b_.cap), (1, [], Value.slice script.ptr script.len script.cap), (21, [], Value.bool true), (23, [], undef)] (by kernel_rfl) (by kernel_rfl) ?_
        refine reg_run [.skip, .skip, .plain] 8 [(0, [], Value.slice b_.ptr b_.len b_.cap), (1, [], Value.slice script.ptr script.len script.cap), (26, [], Value.bool true)] (by kernel_rfl) (by kernel_rfl) ?_
        refine reg_end [(0, Value.slice b_.ptr b_.len b_.cap), (1, Value.slice script.ptr script.len script.cap), (26, Value.bool true)] (by kernel_rfl) (by kernel_rfl) ?_
        exact ⟨[(0, Value.slice b_.ptr b_.len b_.cap), (1, Value.slice script.ptr script.len script.cap), (26, Value.bool true)], Sub.mk (by kernel_rfl), true, rfl, h⟩
      · replace h := h.2 hb
        refine reg_run [] 5 [(0, [], Value.slice b_.ptr b_.len b_.cap), (1, [], Value.slice script.ptr script.len script.cap), (21, [], Value.bool false), (23, [], Value.int .i64 ((b_.len : Nat) : Int))] (by kernel_rfl) (by kernel_rfl) ?_
        refine reg_run [] 5 [(0, [], Value.slice b_.ptr b_.len b_.cap), (1, [], Value.slice script.ptr script.len script.cap), (21, [], Value.bool false), (23, [], Value.int .i64 ((b_.len : Nat) : Int))] (by kernel_rfl) (by kernel_rfl) ?_
        refine reg_new (op := (Go.Op.buildSlice 78 1 #[(0, (Go.Operand.tmp 23))])) (ty := 78) (dst := some 24) (fun bb => Value.slice (some ⟨bb, 0, none⟩) 1 1) (Obj.cells ([Value.int .i64 ((b_.len : Nat) : Int)]).toArray ty_int (0, 0)) (by kernel_rfl) (by kernel_rfl) (fun b_13 w60 hb hw => ?_)
        replace h := h b_13 w60 hb hw
        clear hb hw
        refine reg_run [] 6 [(0, [], Value.slice b_.ptr b_.len b_.cap), (1, [], Value.slice script.ptr script.len script.cap), (21, [], Value.bool false), (24, [], Value.slice (some ⟨b_13, 0, none⟩) 1 1)] (by kernel_rfl) (by kernel_rfl) ?_
        refine reg_enter (op := (Go.Op.call (Go.Call.mk (Go.Callee.value (Go.Operand.func 12)) #[(Go.Operand.tmp 24)] #[78]))) (ty := 4) (dst := some 25) 12 #[Value.slice (some ⟨b_13, 0, none⟩) 1 1] (by kernel_rfl) (fun ww => by kernel_rfl) (Calls.mono h ?_)
        rintro _ w61 ⟨v25, rfl, h⟩
        refine ⟨_, rfl, ?_⟩
        refine reg_run [.plain] 8 [(0, [], Value.slice b_.ptr b_.len b_.cap), (1, [], Value.slice script.ptr script.len script.cap), (26, [], Value.bool v25)] (by kernel_rfl) (by kernel_rfl) ?_
        refine reg_end [(0, Value.slice b_.ptr b_.len b_.cap), (1, Value.slice script.ptr script.len script.cap), (26, Value.bool v25)] (by kernel_rfl) (by kernel_rfl) ?_
        exact ⟨[(0, Value.slice b_.ptr b_.len b_.cap), (1, Value.slice script.ptr script.len script.cap), (26, Value.bool v25)], Sub.mk (by kernel_rfl), v25, rfl, h⟩
    · rintro _ w1 ⟨t26, rfl, h⟩
      unfold F_towpathlaw02_CodecReads_k0 at h
      refine wpE_cond (o := (Operand.tmp 26)) (b := t26) (x := c_towpathlaw02_CodecReads_8) (y := c_towpathlaw02_CodecReads_12) (by kernel_rfl) (by kernel_rfl) (fun hb => ?_) (fun hb => ?_)
      · replace h := h.1 hb
        refine wpE_seq (x := c_towpathlaw02_CodecReads_9) (y := c_towpathlaw02_CodecReads_11) (by kernel_rfl) ?_
        refine wpE_region (id := 2) (ops := r_towpathlaw02_CodecReads_9) (by kernel_rfl) ?_
        refine reg_run [.plain] 1 [(4, [], Value.bool true)] (by kernel_rfl) (by kernel_rfl) ?_
        refine reg_end [(4, Value.bool true)] (by kernel_rfl) (by kernel_rfl) ?_
        change WpE _ _ c_towpathlaw02_CodecReads_11 _ _ _
        refine wpE_ret (by kernel_rfl) ?_
        repeat (first | refine seqQ_ret ?_ | refine blockQ_ret ?_ | refine loopQ_ret ?_ | refine cutQ_ret ?_)
        exact retS (rs := [(Go.ResultVar.tmp 4)]) (v := Value.bool true) (by kernel_rfl) (⟨by kernel_rfl, trivial⟩) ⟨true, rfl, h⟩
      · replace h := h.2 hb
        refine wpE_skip (by kernel_rfl) ?_
        change WpE _ _ c_towpathlaw02_CodecReads_13 _ _ _
        refine wpE_seq (x := c_towpathlaw02_CodecReads_14) (y := c_towpathlaw02_CodecReads_16) (by kernel_rfl) ?_
        refine wpE_region (id := 3) (ops := r_towpathlaw02_CodecReads_14) (by kernel_rfl) ?_
        refine reg_run [.plain] 1 [(0, [], Value.slice b_.ptr b_.len b_.cap), (1, [], Value.slice script.ptr script.len script.cap), (27, [], Value.slice b_.ptr b_.len b_.cap)] (by kernel_rfl) (by kernel_rfl) ?_
        refine reg_enter (op := (Go.Op.call (Go.Call.mk (Go.Callee.value (Go.Operand.func 13)) #[(Go.Operand.tmp 27)] #[22]))) (ty := 22) (dst := some 28) 13 #[Value.slice b_.ptr b_.len b_.cap] (by kernel_rfl) (fun ww => by kernel_rfl) (Calls.mono h ?_)
        rintro _ w2 ⟨v28, rfl, h⟩
        refine ⟨_, rfl, ?_⟩
        refine reg_run [.plain] 3 [(0, [], Value.slice b_.ptr b_.len b_.cap), (1, [], Value.slice script.ptr script.len script.cap), (5, [], Value.slice v28.ptr v28.len v28.cap)] (by kernel_rfl) (by kernel_rfl) ?_
        refine reg_end [(0, Value.slice b_.ptr b_.len b_.cap), (1, Value.slice script.ptr script.len script.cap), (5, Value.slice v28.ptr v28.len v28.cap)] (by kernel_rfl) (by kernel_rfl) ?_
        change WpE _ _ c_towpathlaw02_CodecReads_16 _ _ _
        refine wpE_seq (x := c_towpathlaw02_CodecReads_17) (y := c_towpathlaw02_CodecReads_19) (by kernel_rfl) ?_
        refine wpE_region (id := 4) (ops := r_towpathlaw02_CodecReads_17) (by kernel_rfl) ?_
        refine reg_run [.plain] 1 [(0, [], Value.slice b_.ptr b_.len b_.cap), (1, [], Value.slice script.ptr script.len script.cap), (5, [], Value.slice v28.ptr v28.len v28.cap), (29, [], Value.slice v28.ptr v28.len v28.cap)] (by kernel_rfl) (by kernel_rfl) ?_
        refine reg_enter (op := (Go.Op.call (Go.Call.mk (Go.Callee.value (Go.Operand.func 14)) #[(Go.Operand.tmp 29)] #[22]))) (ty := 27) (dst := some 30) 14 #[Value.slice v28.ptr v28.len v28.cap] (by kernel_rfl) (fun ww => by kernel_rfl) (Calls.mono h ?_)
        rintro _ w3 ⟨v30, rfl, h⟩
        refine ⟨_, rfl, ?_⟩
        refine reg_run [.plain] 3 [(0, [], Value.slice b_.ptr b_.len b_.cap), (1, [], Value.slice script.ptr script.len script.cap), (5, [], Value.slice v28.ptr v28.len v28.cap), (6, [], Value.pointer v30)] (by kernel_rfl) (by kernel_rfl) ?_
        refine reg_end [(0, Value.slice b_.ptr b_.len b_.cap), (1, Value.slice script.ptr script.len script.cap), (5, Value.slice v28.ptr v28.len v28.cap), (6, Value.pointer v30)] (by kernel_rfl) (by kernel_rfl) ?_
        change WpE _ _ c_towpathlaw02_CodecReads_19 _ _ _
        refine wpE_seq (x := c_towpathlaw02_CodecReads_20) (y := c_towpathlaw02_CodecReads_29) (by kernel_rfl) ?_
        refine wpE_seq (x := c_towpathlaw02_CodecReads_21) (y := c_towpathlaw02_CodecReads_23) (by kernel_rfl) ?_
        refine wpE_region (id := 5) (ops := r_towpathlaw02_CodecReads_21) (by kernel_rfl) ?_
        refine reg_run [.plain, .plain] 2 [(0, [], Value.slice b_.ptr b_.len b_.cap), (1, [], Value.slice script.ptr script.len script.cap), (5, [], Value.slice v28.ptr v28.len v28.cap), (6, [], Value.pointer v30), (31, [], Value.slice v28.ptr v28.len v28.cap), (32, [], Value.slice b_.ptr b_.len b_.cap)] (by kernel_rfl) (by kernel_rfl) ?_
        refine reg_enter (op := (Go.Op.call (Go.Call.mk (Go.Callee.value (Go.Operand.func 15)) #[(Go.Operand.tmp 31), (Go.Operand.tmp 32)] #[22, 22]))) (ty := 4) (dst := some 33) 15 #[Value.slice v28.ptr v28.len v28.cap, Value.slice b_.ptr b_.len b_.cap] (by kernel_rfl) (fun ww => by kernel_rfl) (Calls.mono h ?_)
        rintro _ w4 ⟨v33, rfl, h⟩
        refine ⟨_, rfl, ?_⟩
        refine reg_run [.plain] 4 [(0, [], Value.slice b_.ptr b_.len b_.cap), (1, [], Value.slice script.ptr script.len script.cap), (5, [], Value.slice v28.ptr v28.len v28.cap), (6, [], Value.pointer v30), (34, [], Value.bool (!v33))] (by kernel_rfl) (by kernel_rfl) ?_
        refine reg_end [(0, Value.slice b_.ptr b_.len b_.cap), (1, Value.slice script.ptr script.len script.cap), (5, Value.slice v28.ptr v28.len v28.cap), (6, Value.pointer v30), (34, Value.bool (!v33))] (by kernel_rfl) (by kernel_rfl) ?_
        change WpE _ _ c_towpathlaw02_CodecReads_23 _ _ _
        refine wpE_cond (o := (Operand.tmp 34)) (b := (!v33)) (x := c_towpathlaw02_CodecReads_24) (y := c_towpathlaw02_CodecReads_28) (by kernel_rfl) (by kernel_rfl) (fun hb => ?_) (fun hb => ?_)
        · replace h := h.1 hb
          refine wpE_seq (x := c_towpathlaw02_CodecReads_25) (y := c_towpathlaw02_CodecReads_27) (by kernel_rfl) ?_
          refine wpE_region (id := 6) (ops := r_towpathlaw02_CodecReads_25) (by kernel_rfl) ?_
          refine reg_run [.plain] 1 [(4, [], Value.bool false)] (by kernel_rfl) (by kernel_rfl) ?_
          refine reg_end [(4, Value.bool false)] (by kernel_rfl) (by kernel_rfl) ?_
          change WpE _ _ c_towpathlaw02_CodecReads_27 _ _ _
          refine wpE_ret (by kernel_rfl) ?_
          repeat (first | refine seqQ_ret ?_ | refine blockQ_ret ?_ | refine loopQ_ret ?_ | refine cutQ_ret ?_)
          exact retS (rs := [(Go.ResultVar.tmp 4)]) (v := Value.bool false) (by kernel_rfl) (⟨by kernel_rfl, trivial⟩) ⟨false, rfl, h⟩
        · replace h := h.2 hb
          refine wpE_skip (by kernel_rfl) ?_
          change WpE _ _ c_towpathlaw02_CodecReads_29 _ _ _
          refine wpE_seq (x := c_towpathlaw02_CodecReads_30) (y := c_towpathlaw02_CodecReads_48) (by kernel_rfl) ?_
          refine wpE_seq (x := c_towpathlaw02_CodecReads_31) (y := c_towpathlaw02_CodecReads_33) (by kernel_rfl) ?_
          refine wpE_region (id := 7) (ops := r_towpathlaw02_CodecReads_31) (by kernel_rfl) ?_
          refine reg_run [.plain] 1 [(0, [], Value.slice b_.ptr b_.len b_.cap), (1, [], Value.slice script.ptr script.len script.cap), (5, [], Value.slice v28.ptr v28.len v28.cap), (6, [], Value.pointer v30), (7, [], Value.int .i64 0)] (by kernel_rfl) (by kernel_rfl) ?_
          refine reg_end [(0, Value.slice b_.ptr b_.len b_.cap), (1, Value.slice script.ptr script.len script.cap), (5, Value.slice v28.ptr v28.len v28.cap), (6, Value.pointer v30), (7, Value.int .i64 0)] (by kernel_rfl) (by kernel_rfl) ?_
          change WpE _ _ c_towpathlaw02_CodecReads_33 _ _ _
          refine wpE_block (id := 0) (x := c_towpathlaw02_CodecReads_34) (by kernel_rfl) ?_
          obtain ⟨I, μ, h0, hr⟩ := h
          refine wpE_loop (x := c_towpathlaw02_CodecReads_35) (by kernel_rfl) (fun m l w => ∃ (i : Int), l = [(0, Value.slice b_.ptr b_.len b_.cap), (1, Value.slice script.ptr script.len script.cap), (5, Value.slice v28.ptr v28.len v28.cap), (6, Value.pointer v30), (7, Value.int .i64 i)] ∧ I i w ∧ μ i w = m) (l' := [(0, Value.slice b_.ptr b_.len b_.cap), (1, Value.slice script.ptr script.len script.cap), (5, Value.slice v28.ptr v28.len v28.cap), (6, Value.pointer v30), (7, Value.int .i64 0)]) (Sub.mk (by kernel_rfl)) ⟨0, rfl, h0, rfl⟩ ?_
          rintro _ _ w5 ⟨i, rfl, hI, rfl⟩
          obtain ⟨again_, again__h, h⟩ : ∃ again_ : Int → World → Prop, (∀ i' w', again_ i' w' → I i' w' ∧ μ i' w' < μ i w5) ∧ F_towpathlaw02_CodecReads_L1 b_ script R v28 v30 again_ i w5 := ⟨_, fun _ _ h => h, hr i w5 hI⟩
          clear h0 hI
          unfold F_towpathlaw02_CodecReads_L1 at h
          refine wpE_seq (x := c_towpathlaw02_CodecReads_36) (y := c_towpathlaw02_CodecReads_42) (by kernel_rfl) ?_
          refine wpE_seq (x := c_towpathlaw02_CodecReads_37) (y := c_towpathlaw02_CodecReads_39) (by kernel_rfl) ?_
          refine wpE_region (id := 8) (ops := r_towpathlaw02_CodecReads_37) (by kernel_rfl) ?_
          refine reg_run [.plain, .plain, .plain, .plain] 4 [(0, [], Value.slice b_.ptr b_.len b_.cap), (1, [], Value.slice script.ptr script.len script.cap), (5, [], Value.slice v28.ptr v28.len v28.cap), (6, [], Value.pointer v30), (7, [], Value.int .i64 i), (38, [], Value.bool (decide (i < ((v28.len : Nat) : Int))))] (by kernel_rfl) (by kernel_rfl) ?_
          refine reg_end [(0, Value.slice b_.ptr b_.len b_.cap), (1, Value.slice script.ptr script.len script.cap), (5, Value.slice v28.ptr v28.len v28.cap), (6, Value.pointer v30), (7, Value.int .i64 i), (38, Value.bool (decide (i < ((v28.len : Nat) : Int))))] (by kernel_rfl) (by kernel_rfl) ?_
          change WpE _ _ c_towpathlaw02_CodecReads_39 _ _ _
          refine wpE_cond (o := (Operand.tmp 38)) (b := (decide (i < ((v28.len : Nat) : Int)))) (x := c_towpathlaw02_CodecReads_40) (y := c_towpathlaw02_CodecReads_41) (by kernel_rfl) (by kernel_rfl) (fun hb => ?_) (fun hb => ?_)
          · replace h := h.1 hb
            refine wpE_skip (by kernel_rfl) ?_
            change WpE _ _ c_towpathlaw02_CodecReads_42 _ _ _
            refine wpE_seq (x := c_towpathlaw02_CodecReads_43) (y := c_towpathlaw02_CodecReads_46) (by kernel_rfl) ?_
            refine wpE_block (id := 1) (x := c_towpathlaw02_CodecReads_44) (by kernel_rfl) ?_
            refine wpE_region (id := 10) (ops := r_towpathlaw02_CodecReads_44) (by kernel_rfl) ?_
            refine reg_run [.plain, .plain] 2 [(0, [], Value.slice b_.ptr b_.len b_.cap), (1, [], Value.slice script.ptr script.len script.cap), (5, [], Value.slice v28.ptr v28.len v28.cap), (6, [], Value.pointer v30), (7, [], Value.int .i64 i), (41, [], Value.slice v28.ptr v28.len v28.cap), (42, [], Value.int .i64 i)] (by kernel_rfl) (by kernel_rfl) ?_
            obtain ⟨hp_3, h⟩ := h
            refine reg_conv [(0, [], Value.slice b_.ptr b_.len b_.cap), (1, [], Value.slice script.ptr script.len script.cap), (5, [], Value.slice v28.ptr v28.len v28.cap), (6, [], Value.pointer v30), (7, [], Value.int .i64 i), (41, [], Value.slice (some ⟨(pblk v28.ptr), (poff v28.ptr), none⟩) v28.len v28.cap), (42, [], Value.int .i64 i)] (congrArg (fun pp => ([(0, [], Value.slice b_.ptr b_.len b_.cap), (1, [], Value.slice script.ptr script.len script.cap), (5, [], Value.slice v28.ptr v28.len v28.cap), (6, [], Value.pointer v30), (7, [], Value.int .i64 i), (41, [], Value.slice pp v28.len v28.cap), (42, [], Value.int .i64 i)] : GEnv)) hp_3) ?_
            obtain ⟨h0, h1, h⟩ := h
            refine reg_indexS1 (t := 22) (e := 5) (x := (Go.Operand.tmp 41)) (ix := (Go.Operand.tmp 42)) (b := (pblk v28.ptr)) (o := (poff v28.ptr)) (l := v28.len) (c := v28.cap) (k := .i64) (j := i) (ty := 0) (dst := some 43) (by kernel_rfl) (by kernel_rfl) (by kernel_rfl) (by kernel_rfl) (by kernel_rfl) h0 h1 ?_
            refine reg_run [] 3 [(0, [], Value.slice b_.ptr b_.len b_.cap), (1, [], Value.slice script.ptr script.len script.cap), (5, [], Value.slice v28.ptr v28.len v28.cap), (6, [], Value.pointer v30), (7, [], Value.int .i64 i), (43, [], Value.pointer (some ⟨(pblk v28.ptr), (poff v28.ptr) + i.toNat, none⟩))] (by kernel_rfl) (by kernel_rfl) ?_
            obtain ⟨hc, h⟩ := h
            refine reg_store (t := 5) (a := (Go.Operand.tmp 43)) (x := (Go.Operand.const (Go.Value.int Go.IntKind.u8 238))) (b := (pblk v28.ptr)) (o := ((poff v28.ptr) + i.toNat)) (ty := 0) (dst := none) [Value.int .u8 238] (by kernel_rfl) (by kernel_rfl) (by kernel_rfl) (k := 1) (by kernel_rfl) (by kernel_rfl) (by kernel_rfl) hc (fun w6 hw => ?_)
            replace h := h w6 hw
            clear hw
            refine reg_end [(0, Value.slice b_.ptr b_.len b_.cap), (1, Value.slice script.ptr script.len script.cap), (5, Value.slice v28.ptr v28.len v28.cap), (6, Value.pointer v30), (7, Value.int .i64 i)] (by kernel_rfl) (by kernel_rfl) ?_
            change WpE _ _ c_towpathlaw02_CodecReads_46 _ _ _
            refine wpE_region (id := 9) (ops := r_towpathlaw02_CodecReads_46) (by kernel_rfl) ?_
            refine reg_run [.plain, .plain, .plain] 3 [(0, [], Value.slice b_.ptr b_.len b_.cap), (1, [], Value.slice script.ptr script.len script.cap), (5, [], Value.slice v28.ptr v28.len v28.cap), (6, [], Value.pointer v30), (7, [], Value.int .i64 (IntKind.i64.wrap (i + 1)))] (by kernel_rfl) (by kernel_rfl) ?_
            refine reg_end [(0, Value.slice b_.ptr b_.len b_.cap), (1, Value.slice script.ptr script.len script.cap), (5, Value.slice v28.ptr v28.len v28.cap), (6, Value.pointer v30), (7, Value.int .i64 (IntKind.i64.wrap (i + 1)))] (by kernel_rfl) (by kernel_rfl) ?_
            have hb_ := again__h _ _ h
            exact ⟨_, hb_.2, [(0, Value.slice b_.ptr b_.len b_.cap), (1, Value.slice script.ptr script.len script.cap), (5, Value.slice v28.ptr v28.len v28.cap), (6, Value.pointer v30), (7, Value.int .i64 (IntKind.i64.wrap (i + 1)))], Sub.mk (by kernel_rfl), (IntKind.i64.wrap (i + 1)), rfl, hb_.1, rfl⟩
          · replace h := h.2 hb
            refine wpE_exit (id := 0) (by kernel_rfl) ?_
            change WpE _ _ c_towpathlaw02_CodecReads_48 _ _ _
            refine wpE_seq (x := c_towpathlaw02_CodecReads_49) (y := c_towpathlaw02_CodecReads_51) (by kernel_rfl) ?_
            refine wpE_region (id := 11) (ops := r_towpathlaw02_CodecReads_49) (by kernel_rfl) ?_
            refine reg_run [.plain] 1 [(1, [], Value.slice script.ptr script.len script.cap), (6, [], Value.pointer v30), (44, [], Value.slice b_.ptr b_.len b_.cap)] (by kernel_rfl) (by kernel_rfl) ?_
            refine reg_enter (op := (Go.Op.call (Go.Call.mk (Go.Callee.value (Go.Operand.func 13)) #[(Go.Operand.tmp 44)] #[22]))) (ty := 22) (dst := some 45) 13 #[Value.slice b_.ptr b_.len b_.cap] (by kernel_rfl) (fun ww => by kernel_rfl) (Calls.mono h ?_)
            rintro _ w7 ⟨v45, rfl, h⟩
            refine ⟨_, rfl, ?_⟩
            refine reg_run [.plain] 3 [(1, [], Value.slice script.ptr script.len script.cap), (6, [], Value.pointer v30), (46, [], Value.agg #[Value.bool false, Value.slice v45.ptr v45.len v45.cap, Value.int .i64 0, Value.int .i64 0])] (by kernel_rfl) (by kernel_rfl) ?_
            refine reg_new (op := (Go.Op.alloc 32)) (ty := 0) (dst := some 8) (fun bb => Value.pointer (some ⟨bb, 0, none⟩)) (Obj.cells ([Value.bool false, Value.slice none 0 0, Value.int .i64 0, Value.int .i64 0]).toArray ty_towpathref02_Reader (0, 0)) (by kernel_rfl) (by kernel_rfl) (fun b_1 w8 hb hw => ?_)
            replace h := h b_1 w8 hb hw
            clear hb hw
            refine reg_run [] 4 [(1, [], Value.slice script.ptr script.len script.cap), (6, [], Value.pointer v30), (8, [], Value.pointer (some ⟨b_1, 0, none⟩)), (46, [], Value.agg #[Value.bool false, Value.slice v45.ptr v45.len v45.cap, Value.int .i64 0, Value.int .i64 0])] (by kernel_rfl) (by kernel_rfl) ?_
            obtain ⟨hc, h⟩ := h
            refine reg_store (t := 32) (a := (Go.Operand.tmp 8)) (x := (Go.Operand.tmp 46)) (b := b_1) (o := 0) (ty := 0) (dst := none) [Value.bool false, Value.slice v45.ptr v45.len v45.cap, Value.int .i64 0, Value.int .i64 0] (by kernel_rfl) (by kernel_rfl) (by kernel_rfl) (k := 4) (by kernel_rfl) (by kernel_rfl) (by kernel_rfl) hc (fun w9 hw => ?_)
            replace h := h w9 hw
            clear hw
            refine reg_end [(1, Value.slice script.ptr script.len script.cap), (6, Value.pointer v30), (8, Value.pointer (some ⟨b_1, 0, none⟩))] (by kernel_rfl) (by kernel_rfl) ?_
            change WpE _ _ c_towpathlaw02_CodecReads_51 _ _ _
            refine wpE_seq (x := c_towpathlaw02_CodecReads_52) (y := c_towpathlaw02_CodecReads_54) (by kernel_rfl) ?_
            refine wpE_region (id := 12) (ops := r_towpathlaw02_CodecReads_52) (by kernel_rfl) ?_
            refine reg_run [.plain] 1 [(1, [], Value.slice script.ptr script.len script.cap), (6, [], Value.pointer v30), (8, [], Value.pointer (some ⟨b_1, 0, none⟩)), (9, [], Value.pointer none)] (by kernel_rfl) (by kernel_rfl) ?_
            refine reg_end [(1, Value.slice script.ptr script.len script.cap), (6, Value.pointer v30), (8, Value.pointer (some ⟨b_1, 0, none⟩)), (9, Value.pointer none)] (by kernel_rfl) (by kernel_rfl) ?_
            change WpE _ _ c_towpathlaw02_CodecReads_54 _ _ _
            refine wpE_seq (x := c_towpathlaw02_CodecReads_55) (y := c_towpathlaw02_CodecReads_57) (by kernel_rfl) ?_
            refine wpE_region (id := 13) (ops := r_towpathlaw02_CodecReads_55) (by kernel_rfl) ?_
            refine reg_run [.plain] 1 [(1, [], Value.slice script.ptr script.len script.cap), (6, [], Value.pointer v30), (8, [], Value.pointer (some ⟨b_1, 0, none⟩)), (9, [], Value.pointer none), (47, [], Value.agg #[Value.bool true, Value.slice none 0 0, Value.int .i64 0, Value.int .i64 0])] (by kernel_rfl) (by kernel_rfl) ?_
            refine reg_new (op := (Go.Op.alloc 32)) (ty := 0) (dst := some 10) (fun bb => Value.pointer (some ⟨bb, 0, none⟩)) (Obj.cells ([Value.bool false, Value.slice none 0 0, Value.int .i64 0, Value.int .i64 0]).toArray ty_towpathref02_Reader (0, 0)) (by kernel_rfl) (by kernel_rfl) (fun b_2 w10 hb hw => ?_)
            replace h := h b_2 w10 hb hw
            clear hb hw
            refine reg_run [] 2 [(1, [], Value.slice script.ptr script.len script.cap), (6, [], Value.pointer v30), (8, [], Value.pointer (some ⟨b_1, 0, none⟩)), (9, [], Value.pointer none), (10, [], Value.pointer (some ⟨b_2, 0, none⟩)), (47, [], Value.agg #[Value.bool true, Value.slice none 0 0, Value.int .i64 0, Value.int .i64 0])] (by kernel_rfl) (by kernel_rfl) ?_
            obtain ⟨hc, h⟩ := h
            refine reg_store (t := 32) (a := (Go.Operand.tmp 10)) (x := (Go.Operand.tmp 47)) (b := b_2) (o := 0) (ty := 0) (dst := none) [Value.bool true, Value.slice none 0 0, Value.int .i64 0, Value.int .i64 0] (by kernel_rfl) (by kernel_rfl) (by kernel_rfl) (k := 4) (by kernel_rfl) (by kernel_rfl) (by kernel_rfl) hc (fun w11 hw => ?_)
            replace h := h w11 hw
            clear hw
            refine reg_end [(1, Value.slice script.ptr script.len script.cap), (6, Value.pointer v30), (8, Value.pointer (some ⟨b_1, 0, none⟩)), (9, Value.pointer none), (10, Value.pointer (some ⟨b_2, 0, none⟩))] (by kernel_rfl) (by kernel_rfl) ?_
            change WpE _ _ c_towpathlaw02_CodecReads_57 _ _ _
            refine wpE_seq (x := c_towpathlaw02_CodecReads_58) (y := c_towpathlaw02_CodecReads_95) (by kernel_rfl) ?_
            refine wpE_seq (x := c_towpathlaw02_CodecReads_59) (y := c_towpathlaw02_CodecReads_61) (by kernel_rfl) ?_
            refine wpE_region (id := 14) (ops := r_towpathlaw02_CodecReads_59) (by kernel_rfl) ?_
            refine reg_run [.plain] 1 [(1, [], Value.slice script.ptr script.len script.cap), (6, [], Value.pointer v30), (8, [], Value.pointer (some ⟨b_1, 0, none⟩)), (9, [], Value.pointer none), (10, [], Value.pointer (some ⟨b_2, 0, none⟩)), (11, [], Value.int .i64 0)] (by kernel_rfl) (by kernel_rfl) ?_
            refine reg_end [(1, Value.slice script.ptr script.len script.cap), (6, Value.pointer v30), (8, Value.pointer (some ⟨b_1, 0, none⟩)), (9, Value.pointer none), (10, Value.pointer (some ⟨b_2, 0, none⟩)), (11, Value.int .i64 0)] (by kernel_rfl) (by kernel_rfl) ?_
            change WpE _ _ c_towpathlaw02_CodecReads_61 _ _ _
            refine wpE_block (id := 2) (x := c_towpathlaw02_CodecReads_62) (by kernel_rfl) ?_
            obtain ⟨I, μ, h0, hr⟩ := h
            refine wpE_loop (x := c_towpathlaw02_CodecReads_63) (by kernel_rfl) (fun m l w => ∃ (i1 : Int), l = [(1, Value.slice script.ptr script.len script.cap), (6, Value.pointer v30), (8, Value.pointer (some ⟨b_1, 0, none⟩)), (9, Value.pointer none), (10, Value.pointer (some ⟨b_2, 0, none⟩)), (11, Value.int .i64 i1)] ∧ I i1 w ∧ μ i1 w = m) (l' := [(1, Value.slice script.ptr script.len script.cap), (6, Value.pointer v30), (8, Value.pointer (some ⟨b_1, 0, none⟩)), (9, Value.pointer none), (10, Value.pointer (some ⟨b_2, 0, none⟩)), (11, Value.int .i64 0)]) (Sub.mk (by kernel_rfl)) ⟨0, rfl, h0, rfl⟩ ?_
            rintro _ _ w12 ⟨i1, rfl, hI, rfl⟩
            obtain ⟨again_1, again_1_h, h⟩ : ∃ again_1 : Int → World → Prop, (∀ i1' w', again_1 i1' w' → I i1' w' ∧ μ i1' w' < μ i1 w12) ∧ F_towpathlaw02_CodecReads_L2 script R v30 b_1 b_2 again_1 i1 w12 := ⟨_, fun _ _ h => h, hr i1 w12 hI⟩
            clear h0 hI
            unfold F_towpathlaw02_CodecReads_L2 at h
            refine wpE_seq (x := c_towpathlaw02_CodecReads_64) (y := c_towpathlaw02_CodecReads_70) (by kernel_rfl) ?_
            refine wpE_seq (x := c_towpathlaw02_CodecReads_65) (y := c_towpathlaw02_CodecReads_67) (by kernel_rfl) ?_
            refine wpE_region (id := 15) (ops := r_towpathlaw02_CodecReads_65) (by kernel_rfl) ?_
            refine reg_run [.plain, .plain, .plain, .plain] 4 [(1, [], Value.slice script.ptr script.len script.cap), (6, [], Value.pointer v30), (8, [], Value.pointer (some ⟨b_1, 0, none⟩)), (9, [], Value.pointer none), (10, [], Value.pointer (some ⟨b_2, 0, none⟩)), (11, [], Value.int .i64 i1), (51, [], Value.bool (decide (i1 < ((script.len : Nat) : Int))))] (by kernel_rfl) (by kernel_rfl) ?_
            refine reg_end [(1, Value.slice script.ptr script.len script.cap), (6, Value.pointer v30), (8, Value.pointer (some ⟨b_1, 0, none⟩)), (9, Value.pointer none), (10, Value.pointer (some ⟨b_2, 0, none⟩)), (11, Value.int .i64 i1), (51, Value.bool (decide (i1 < ((script.len : Nat) : Int))))] (by kernel_rfl) (by kernel_rfl) ?_
            change WpE _ _ c_towpathlaw02_CodecReads_67 _ _ _
            refine wpE_cond (o := (Operand.tmp 51)) (b := (decide (i1 < ((script.len : Nat) : Int)))) (x := c_towpathlaw02_CodecReads_68) (y := c_towpathlaw02_CodecReads_69) (by kernel_rfl) (by kernel_rfl) (fun hb => ?_) (fun hb => ?_)
            · replace h := h.1 hb
              refine wpE_skip (by kernel_rfl) ?_
              change WpE _ _ c_towpathlaw02_CodecReads_70 _ _ _
              refine wpE_seq (x := c_towpathlaw02_CodecReads_71) (y := c_towpathlaw02_CodecReads_93) (by kernel_rfl) ?_
              refine wpE_block (id := 3) (x := c_towpathlaw02_CodecReads_72) (by kernel_rfl) ?_
              refine wpE_seq_cut (x := c_towpathlaw02_CodecReads_73) (y := c_towpathlaw02_CodecReads_75) (by kernel_rfl) (fun l w => ∃ (next : Option Addr) (ok : Bool), l = [(1, Value.slice script.ptr script.len script.cap), (6, Value.pointer v30), (8, Value.pointer (some ⟨b_1, 0, none⟩)), (9, Value.pointer none), (10, Value.pointer (some ⟨b_2, 0, none⟩)), (11, Value.int .i64 i1), (12, Value.pointer next), (13, Value.bool ok)] ∧ F_towpathlaw02_CodecReads_k3 script R v30 b_1 b_2 i1 again_1 next ok w) ?_ ?_
              · refine wpE_mixregion (id := 17) (ops := r_towpathlaw02_CodecReads_73) o_towpathlaw02_CodecReads_73 (by kernel_rfl) (by kernel_rfl) (by kernel_rfl) (by kernel_rfl) (fun w42 hw => ?_)
                replace h := h w42 hw
                clear hw
                refine mreg_run [.plain] 1 [(1, [], Value.slice script.ptr script.len script.cap), (6, [], Value.pointer v30), (8, [], Value.pointer (some ⟨b_1, 0, none⟩)), (9, [], Value.pointer none), (10, [], Value.pointer (some ⟨b_2, 0, none⟩)), (11, [], Value.int .i64 i1), (55, [], Value.pointer v30)] (by kernel_rfl) (by kernel_rfl) ?_
                obtain ⟨v56, hc, h⟩ := h
                refine mreg_loadN (i := 1) (by kernel_rfl) (t := 32) (a := (Go.Operand.tmp 8)) (b := b_1) (o := 0) (ty := 32) (dst := some 56) [Value.bool v56.Gone, Value.slice v56.B.ptr v56.B.len v56.B.cap, Value.int .i64 v56.At, Value.int .i64 v56.Code] (by kernel_rfl) (by kernel_rfl) (by kernel_rfl) (k := 4) (by kernel_rfl) (by kernel_rfl) hc ?_
                refine mreg_run [.plain, .plain] 4 [(1, [], Value.slice script.ptr script.len script.cap), (6, [], Value.pointer v30), (8, [], Value.pointer (some ⟨b_1, 0, none⟩)), (9, [], Value.pointer none), (10, [], Value.pointer (some ⟨b_2, 0, none⟩)), (11, [], Value.int .i64 i1), (55, [], Value.pointer v30), (56, [], Value.agg #[Value.bool v56.Gone, Value.slice v56.B.ptr v56.B.len v56.B.cap, Value.int .i64 v56.At, Value.int .i64 v56.Code]), (57, [], Value.slice script.ptr script.len script.cap), (58, [], Value.int .i64 i1)] (by kernel_rfl) (by kernel_rfl) ?_
                obtain ⟨hp_35, h⟩ := h
                refine mreg_conv [(1, [], Value.slice script.ptr script.len script.cap), (6, [], Value.pointer v30), (8, [], Value.pointer (some ⟨b_1, 0, none⟩)), (9, [], Value.pointer none), (10, [], Value.pointer (some ⟨b_2, 0, none⟩)), (11, [], Value.int .i64 i1), (55, [], Value.pointer v30), (56, [], Value.agg #[Value.bool v56.Gone, Value.slice v56.B.ptr v56.B.len v56.B.cap, Value.int .i64 v56.At, Value.int .i64 v56.Code]), (57, [], Value.slice (some ⟨(pblk script.ptr), (poff script.ptr), none⟩) script.len script.cap), (58, [], Value.int .i64 i1)] (congrArg (fun pp => ([(1, [], Value.slice script.ptr script.len script.cap), (6, [], Value.pointer v30), (8, [], Value.pointer (some ⟨b_1, 0, none⟩)), (9, [], Value.pointer none), (10, [], Value.pointer (some ⟨b_2, 0, none⟩)), (11, [], Value.int .i64 i1), (55, [], Value.pointer v30), (56, [], Value.agg #[Value.bool v56.Gone, Value.slice v56.B.ptr v56.B.len v56.B.cap, Value.int .i64 v56.At, Value.int .i64 v56.Code]), (57, [], Value.slice pp script.len script.cap), (58, [], Value.int .i64 i1)] : GEnv)) hp_35) ?_
                obtain ⟨h0, h1, h⟩ := h
                refine mreg_indexS (i := 4) (by kernel_rfl) (t := 23) (e := 37) (x := (Go.Operand.tmp 57)) (ix := (Go.Operand.tmp 58)) (b := (pblk script.ptr)) (o := (poff script.ptr)) (l := script.len) (c := script.cap) (k := .i64) (j := i1) (ty := 0) (dst := some 59) (sz := 5) (by kernel_rfl) (by kernel_rfl) (by kernel_rfl) (by kernel_rfl) (by kernel_rfl) h0 h1 ?_
                refine mreg_run [] 5 [(1, [], Value.slice script.ptr script.len script.cap), (6, [], Value.pointer v30), (8, [], Value.pointer (some ⟨b_1, 0, none⟩)), (9, [], Value.pointer none), (10, [], Value.pointer (some ⟨b_2, 0, none⟩)), (11, [], Value.int .i64 i1), (55, [], Value.pointer v30), (56, [], Value.agg #[Value.bool v56.Gone, Value.slice v56.B.ptr v56.B.len v56.B.cap, Value.int .i64 v56.At, Value.int .i64 v56.Code]), (59, [], Value.pointer (some ⟨(pblk script.ptr), (poff script.ptr) + i1.toNat * 5, none⟩))] (by kernel_rfl) (by kernel_rfl) ?_
                obtain ⟨v60, hc, h⟩ := h
                refine mreg_loadN (i := 5) (by kernel_rfl) (t := 37) (a := (Go.Operand.tmp 59)) (b := (pblk script.ptr)) (o := ((poff script.ptr) + i1.toNat * 5)) (ty := 37) (dst := some 60) [Value.int .u8 v60.Kind, Value.int .u64 v60.N, Value.int .i64 v60.Width, Value.string v60.Text, Value.int .i64 v60.Most] (by kernel_rfl) (by kernel_rfl) (by kernel_rfl) (k := 5) (by kernel_rfl) (by kernel_rfl) hc ?_
                refine mreg_run [] 6 [(1, [], Value.slice script.ptr script.len script.cap), (6, [], Value.pointer v30), (8, [], Value.pointer (some ⟨b_1, 0, none⟩)), (9, [], Value.pointer none), (10, [], Value.pointer (some ⟨b_2, 0, none⟩)), (11, [], Value.int .i64 i1), (55, [], Value.pointer v30), (56, [], Value.agg #[Value.bool v56.Gone, Value.slice v56.B.ptr v56.B.len v56.B.cap, Value.int .i64 v56.At, Value.int .i64 v56.Code]), (60, [], Value.agg #[Value.int .u8 v60.Kind, Value.int .u64 v60.N, Value.int .i64 v60.Width, Value.string v60.Text, Value.int .i64 v60.Most])] (by kernel_rfl) (by kernel_rfl) ?_
                refine mreg_fork 6 [6, 10] (by kernel_rfl) (by kernel_rfl) (fork_two ?_ ?_)
                · replace h := h.1
                  refine eff_enter (π := o_towpathlaw02_CodecReads_73_94) (k := 6) (op := (Go.Op.call (Go.Call.mk (Go.Callee.value (Go.Operand.func 16)) #[(Go.Operand.tmp 55), (Go.Operand.tmp 56), (Go.Operand.tmp 60)] #[27, 32, 37]))) (ty := 33) (dst := some 61) 6 [0, 1, 5, 4, 2, 3] [] 16 #[Value.pointer v30, Value.agg #[Value.bool v56.Gone, Value.slice v56.B.ptr v56.B.len v56.B.cap, Value.int .i64 v56.At, Value.int .i64 v56.Code], Value.agg #[Value.int .u8 v60.Kind, Value.int .u64 v60.N, Value.int .i64 v60.Width, Value.string v60.Text, Value.int .i64 v60.Most]] (by kernel_rfl) (by kernel_rfl) (by kernel_rfl) (by kernel_rfl) (by kernel_rfl) (by kernel_rfl) (fun ww => by kernel_rfl) (Calls.mono h ?_)
                  rintro _ w43 ⟨v61, ok1, rfl, h⟩
                  refine ⟨_, rfl, trivial, ?_⟩
                  refine mreg_run [.plain, .plain, .plain] 10 [(1, [], Value.slice script.ptr script.len script.cap), (6, [], Value.pointer v30), (8, [], Value.pointer (some ⟨b_1, 0, none⟩)), (9, [], Value.pointer none), (10, [], Value.pointer (some ⟨b_2, 0, none⟩)), (11, [], Value.int .i64 i1), (62, [], Value.agg #[Value.bool v61.Gone, Value.slice v61.B.ptr v61.B.len v61.B.cap, Value.int .i64 v61.At, Value.int .i64 v61.Code]), (63, [], Value.bool ok1)] (by kernel_rfl) (by kernel_rfl) ?_
                  refine mreg_new (op := (Go.Op.alloc 32)) (ty := 0) (dst := some 12) 10 [] [] (fun bb => Value.pointer (some ⟨bb, 0, none⟩)) (Obj.cells ([Value.bool false, Value.slice none 0 0, Value.int .i64 0, Value.int .i64 0]).toArray ty_towpathref02_Reader (0, 0)) (by kernel_rfl) (by kernel_rfl) (by kernel_rfl) (by kernel_rfl) (by kernel_rfl) (by kernel_rfl) (fun b_10 w44 hb hw => ?_)
                  replace h := h b_10 w44 hb hw
                  clear hb hw
                  refine ⟨trivial, ?_⟩
                  refine mreg_run [] 11 [(1, [], Value.slice script.ptr script.len script.cap), (6, [], Value.pointer v30), (8, [], Value.pointer (some ⟨b_1, 0, none⟩)), (9, [], Value.pointer none), (10, [], Value.pointer (some ⟨b_2, 0, none⟩)), (11, [], Value.int .i64 i1), (12, [], Value.pointer (some ⟨b_10, 0, none⟩)), (62, [], Value.agg #[Value.bool v61.Gone, Value.slice v61.B.ptr v61.B.len v61.B.cap, Value.int .i64 v61.At, Value.int .i64 v61.Code]), (63, [], Value.bool ok1)] (by kernel_rfl) (by kernel_rfl) ?_
                  obtain ⟨hc, h⟩ := h
                  refine mreg_store (t := 32) (a := (Go.Operand.tmp 12)) (x := (Go.Operand.tmp 62)) (b := b_10) (o := 0) (k := 4) (ty := 0) (dst := none) 11 [0, 1, 2, 3, 4, 5, 6, 7, 8, 10] [] [Value.bool v61.Gone, Value.slice v61.B.ptr v61.B.len v61.B.cap, Value.int .i64 v61.At, Value.int .i64 v61.Code] (by kernel_rfl) (by kernel_rfl) (by kernel_rfl) (by kernel_rfl) (by kernel_rfl) (by kernel_rfl) (by kernel_rfl) (by kernel_rfl) (by kernel_rfl) (by kernel_rfl) hc (fun w45 hw => ?_)
                  replace h := h w45 hw
                  clear hw
                  refine ⟨trivial, ?_⟩
                  refine mreg_run [.plain] 13 [(1, [], Value.slice script.ptr script.len script.cap), (6, [], Value.pointer v30), (8, [], Value.pointer (some ⟨b_1, 0, none⟩)), (9, [], Value.pointer none), (10, [], Value.pointer (some ⟨b_2, 0, none⟩)), (11, [], Value.int .i64 i1), (12, [], Value.pointer (some ⟨b_10, 0, none⟩)), (13, [], Value.bool ok1)] (by kernel_rfl) (by kernel_rfl) ?_
                  refine mreg_end [(1, Value.slice script.ptr script.len script.cap), (6, Value.pointer v30), (8, Value.pointer (some ⟨b_1, 0, none⟩)), (9, Value.pointer none), (10, Value.pointer (some ⟨b_2, 0, none⟩)), (11, Value.int .i64 i1), (12, Value.pointer (some ⟨b_10, 0, none⟩)), (13, Value.bool ok1)] (by kernel_rfl) (by kernel_rfl) (by kernel_rfl) ?_
                  exact ⟨[(1, Value.slice script.ptr script.len script.cap), (6, Value.pointer v30), (8, Value.pointer (some ⟨b_1, 0, none⟩)), (9, Value.pointer none), (10, Value.pointer (some ⟨b_2, 0, none⟩)), (11, Value.int .i64 i1), (12, Value.pointer (some ⟨b_10, 0, none⟩)), (13, Value.bool ok1)], Sub.mk (by kernel_rfl), (some ⟨b_10, 0, none⟩), ok1, rfl, h⟩
                · replace h := h.2
                  refine eff_new (π := o_towpathlaw02_CodecReads_73_95) (k := 6) (op := (Go.Op.alloc 32)) (ty := 0) (dst := some 12) 10 [] [(5, fun w' => CellsAt w' (pblk script.ptr) ((poff script.ptr) + i1.toNat * 5) [Value.int .u8 v60.Kind, Value.int .u64 v60.N, Value.int .i64 v60.Width, Value.string v60.Text, Value.int .i64 v60.Most]), (1, fun w' => CellsAt w' b_1 0 [Value.bool v56.Gone, Value.slice v56.B.ptr v56.B.len v56.B.cap, Value.int .i64 v56.At, Value.int .i64 v56.Code])] (fun bb => Value.pointer (some ⟨bb, 0, none⟩)) (Obj.cells ([Value.bool false, Value.slice none 0 0, Value.int .i64 0, Value.int .i64 0]).toArray ty_towpathref02_Reader (0, 0)) (by kernel_rfl) (by kernel_rfl) (by kernel_rfl) (by kernel_rfl) (by kernel_rfl) (by kernel_rfl) (by kernel_rfl) (fun b_11 w46 hb hw => ?_)
                  replace h := h b_11 w46 hb hw
                  clear hb hw
                  obtain ⟨hk0, hk1, h⟩ := h
                  refine ⟨⟨hk0, hk1, trivial⟩, ?_⟩
                  refine mreg_run [] 7 [(1, [], Value.slice script.ptr script.len script.cap), (6, [], Value.pointer v30), (8, [], Value.pointer (some ⟨b_1, 0, none⟩)), (9, [], Value.pointer none), (10, [], Value.pointer (some ⟨b_2, 0, none⟩)), (11, [], Value.int .i64 i1), (12, [], Value.pointer (some ⟨b_11, 0, none⟩)), (55, [], Value.pointer v30), (56, [], Value.agg #[Value.bool v56.Gone, Value.slice v56.B.ptr v56.B.len v56.B.cap, Value.int .i64 v56.At, Value.int .i64 v56.Code]), (60, [], Value.agg #[Value.int .u8 v60.Kind, Value.int .u64 v60.N, Value.int .i64 v60.Width, Value.string v60.Text, Value.int .i64 v60.Most])] (by kernel_rfl) (by kernel_rfl) ?_
                  refine mreg_enter (op := (Go.Op.call (Go.Call.mk (Go.Callee.value (Go.Operand.func 16)) #[(Go.Operand.tmp 55), (Go.Operand.tmp 56), (Go.Operand.tmp 60)] #[27, 32, 37]))) (ty := 33) (dst := some 61) 6 [0, 1, 5, 4, 2, 3] [] 16 #[Value.pointer v30, Value.agg #[Value.bool v56.Gone, Value.slice v56.B.ptr v56.B.len v56.B.cap, Value.int .i64 v56.At, Value.int .i64 v56.Code], Value.agg #[Value.int .u8 v60.Kind, Value.int .u64 v60.N, Value.int .i64 v60.Width, Value.string v60.Text, Value.int .i64 v60.Most]] (by kernel_rfl) (by kernel_rfl) (by kernel_rfl) (by kernel_rfl) (by kernel_rfl) (fun ww => by kernel_rfl) (Calls.mono h ?_)
                  rintro _ w47 ⟨v611, ok2, rfl, h⟩
                  refine ⟨_, rfl, trivial, ?_⟩
                  refine mreg_run [.plain, .plain, .plain] 11 [(1, [], Value.slice script.ptr script.len script.cap), (6, [], Value.pointer v30), (8, [], Value.pointer (some ⟨b_1, 0, none⟩)), (9, [], Value.pointer none), (10, [], Value.pointer (some ⟨b_2, 0, none⟩)), (11, [], Value.int .i64 i1), (12, [], Value.pointer (some ⟨b_11, 0, none⟩)), (62, [], Value.agg #[Value.bool v611.Gone, Value.slice v611.B.ptr v611.B.len v611.B.cap, Value.int .i64 v611.At, Value.int .i64 v611.Code]), (63, [], Value.bool ok2)] (by kernel_rfl) (by kernel_rfl) ?_
                  obtain ⟨hc, h⟩ := h
                  refine mreg_store (t := 32) (a := (Go.Operand.tmp 12)) (x := (Go.Operand.tmp 62)) (b := b_11) (o := 0) (k := 4) (ty := 0) (dst := none) 11 [0, 1, 2, 3, 4, 5, 6, 7, 8, 10] [] [Value.bool v611.Gone, Value.slice v611.B.ptr v611.B.len v611.B.cap, Value.int .i64 v611.At, Value.int .i64 v611.Code] (by kernel_rfl) (by kernel_rfl) (by kernel_rfl) (by kernel_rfl) (by kernel_rfl) (by kernel_rfl) (by kernel_rfl) (by kernel_rfl) (by kernel_rfl) (by kernel_rfl) hc (fun w48 hw => ?_)
                  replace h := h w48 hw
                  clear hw
                  refine ⟨trivial, ?_⟩
                  refine mreg_run [.plain] 13 [(1, [], Value.slice script.ptr script.len script.cap), (6, [], Value.pointer v30), (8, [], Value.pointer (some ⟨b_1, 0, none⟩)), (9, [], Value.pointer none), (10, [], Value.pointer (some ⟨b_2, 0, none⟩)), (11, [], Value.int .i64 i1), (12, [], Value.pointer (some ⟨b_11, 0, none⟩)), (13, [], Value.bool ok2)] (by kernel_rfl) (by kernel_rfl) ?_
                  refine mreg_end [(1, Value.slice script.ptr script.len script.cap), (6, Value.pointer v30), (8, Value.pointer (some ⟨b_1, 0, none⟩)), (9, Value.pointer none), (10, Value.pointer (some ⟨b_2, 0, none⟩)), (11, Value.int .i64 i1), (12, Value.pointer (some ⟨b_11, 0, none⟩)), (13, Value.bool ok2)] (by kernel_rfl) (by kernel_rfl) (by kernel_rfl) ?_
                  exact ⟨[(1, Value.slice script.ptr script.len script.cap), (6, Value.pointer v30), (8, Value.pointer (some ⟨b_1, 0, none⟩)), (9, Value.pointer none), (10, Value.pointer (some ⟨b_2, 0, none⟩)), (11, Value.int .i64 i1), (12, Value.pointer (some ⟨b_11, 0, none⟩)), (13, Value.bool ok2)], Sub.mk (by kernel_rfl), (some ⟨b_11, 0, none⟩), ok2, rfl, h⟩
              · rintro _ w13 ⟨next, ok, rfl, h⟩
                unfold F_towpathlaw02_CodecReads_k3 at h
                refine wpE_seq_cut (x := c_towpathlaw02_CodecReads_76) (y := c_towpathlaw02_CodecReads_78) (by kernel_rfl) (fun l w => ∃ (one : Bool), l = [(1, Value.slice script.ptr script.len script.cap), (6, Value.pointer v30), (8, Value.pointer (some ⟨b_1, 0, none⟩)), (9, Value.pointer none), (10, Value.pointer (some ⟨b_2, 0, none⟩)), (11, Value.int .i64 i1), (12, Value.pointer next), (13, Value.bool ok), (15, Value.bool one)] ∧ F_towpathlaw02_CodecReads_k4 script R v30 b_1 b_2 i1 again_1 next ok one w) ?_ ?_
                · refine wpE_mixregion (id := 18) (ops := r_towpathlaw02_CodecReads_76) o_towpathlaw02_CodecReads_76 (by kernel_rfl) (by kernel_rfl) (by kernel_rfl) (by kernel_rfl) (fun w35 hw => ?_)
                  replace h := h w35 hw
                  clear hw
                  refine mreg_run [.plain] 1 [(1, [], Value.slice script.ptr script.len script.cap), (6, [], Value.pointer v30), (8, [], Value.pointer (some ⟨b_1, 0, none⟩)), (9, [], Value.pointer none), (10, [], Value.pointer (some ⟨b_2, 0, none⟩)), (11, [], Value.int .i64 i1), (12, [], Value.pointer next), (13, [], Value.bool ok), (65, [], Value.pointer none)] (by kernel_rfl) (by kernel_rfl) ?_
                  obtain ⟨v66, hc, h⟩ := h
                  refine mreg_loadN (i := 1) (by kernel_rfl) (t := 32) (a := (Go.Operand.tmp 10)) (b := b_2) (o := 0) (ty := 32) (dst := some 66) [Value.bool v66.Gone, Value.slice v66.B.ptr v66.B.len v66.B.cap, Value.int .i64 v66.At, Value.int .i64 v66.Code] (by kernel_rfl) (by kernel_rfl) (by kernel_rfl) (k := 4) (by kernel_rfl) (by kernel_rfl) hc ?_
                  refine mreg_run [.plain, .plain] 4 [(1, [], Value.slice script.ptr script.len script.cap), (6, [], Value.pointer v30), (8, [], Value.pointer (some ⟨b_1, 0, none⟩)), (9, [], Value.pointer none), (10, [], Value.pointer (some ⟨b_2, 0, none⟩)), (11, [], Value.int .i64 i1), (12, [], Value.pointer next), (13, [], Value.bool ok), (65, [], Value.pointer none), (66, [], Value.agg #[Value.bool v66.Gone, Value.slice v66.B.ptr v66.B.len v66.B.cap, Value.int .i64 v66.At, Value.int .i64 v66.Code]), (67, [], Value.slice script.ptr script.len script.cap), (68, [], Value.int .i64 i1)] (by kernel_rfl) (by kernel_rfl) ?_
                  obtain ⟨hp_34, h⟩ := h
                  refine mreg_conv [(1, [], Value.slice script.ptr script.len script.cap), (6, [], Value.pointer v30), (8, [], Value.pointer (some ⟨b_1, 0, none⟩)), (9, [], Value.pointer none), (10, [], Value.pointer (some ⟨b_2, 0, none⟩)), (11, [], Value.int .i64 i1), (12, [], Value.pointer next), (13, [], Value.bool ok), (65, [], Value.pointer none), (66, [], Value.agg #[Value.bool v66.Gone, Value.slice v66.B.ptr v66.B.len v66.B.cap, Value.int .i64 v66.At, Value.int .i64 v66.Code]), (67, [], Value.slice (some ⟨(pblk script.ptr), (poff script.ptr), none⟩) script.len script.cap), (68, [], Value.int .i64 i1)] (congrArg (fun pp => ([(1, [], Value.slice script.ptr script.len script.cap), (6, [], Value.pointer v30), (8, [], Value.pointer (some ⟨b_1, 0, none⟩)), (9, [], Value.pointer none), (10, [], Value.pointer (some ⟨b_2, 0, none⟩)), (11, [], Value.int .i64 i1), (12, [], Value.pointer next), (13, [], Value.bool ok), (65, [], Value.pointer none), (66, [], Value.agg #[Value.bool v66.Gone, Value.slice v66.B.ptr v66.B.len v66.B.cap, Value.int .i64 v66.At, Value.int .i64 v66.Code]), (67, [], Value.slice pp script.len script.cap), (68, [], Value.int .i64 i1)] : GEnv)) hp_34) ?_
                  obtain ⟨h0, h1, h⟩ := h
                  refine mreg_indexS (i := 4) (by kernel_rfl) (t := 23) (e := 37) (x := (Go.Operand.tmp 67)) (ix := (Go.Operand.tmp 68)) (b := (pblk script.ptr)) (o := (poff script.ptr)) (l := script.len) (c := script.cap) (k := .i64) (j := i1) (ty := 0) (dst := some 69) (sz := 5) (by kernel_rfl) (by kernel_rfl) (by kernel_rfl) (by kernel_rfl) (by kernel_rfl) h0 h1 ?_
                  refine mreg_run [] 5 [(1, [], Value.slice script.ptr script.len script.cap), (6, [], Value.pointer v30), (8, [], Value.pointer (some ⟨b_1, 0, none⟩)), (9, [], Value.pointer none), (10, [], Value.pointer (some ⟨b_2, 0, none⟩)), (11, [], Value.int .i64 i1), (12, [], Value.pointer next), (13, [], Value.bool ok), (65, [], Value.pointer none), (66, [], Value.agg #[Value.bool v66.Gone, Value.slice v66.B.ptr v66.B.len v66.B.cap, Value.int .i64 v66.At, Value.int .i64 v66.Code]), (69, [], Value.pointer (some ⟨(pblk script.ptr), (poff script.ptr) + i1.toNat * 5, none⟩))] (by kernel_rfl) (by kernel_rfl) ?_
                  obtain ⟨v70, hc, h⟩ := h
                  refine mreg_loadN (i := 5) (by kernel_rfl) (t := 37) (a := (Go.Operand.tmp 69)) (b := (pblk script.ptr)) (o := ((poff script.ptr) + i1.toNat * 5)) (ty := 37) (dst := some 70) [Value.int .u8 v70.Kind, Value.int .u64 v70.N, Value.int .i64 v70.Width, Value.string v70.Text, Value.int .i64 v70.Most] (by kernel_rfl) (by kernel_rfl) (by kernel_rfl) (k := 5) (by kernel_rfl) (by kernel_rfl) hc ?_
                  refine mreg_run [] 6 [(1, [], Value.slice script.ptr script.len script.cap), (6, [], Value.pointer v30), (8, [], Value.pointer (some ⟨b_1, 0, none⟩)), (9, [], Value.pointer none), (10, [], Value.pointer (some ⟨b_2, 0, none⟩)), (11, [], Value.int .i64 i1), (12, [], Value.pointer next), (13, [], Value.bool ok), (65, [], Value.pointer none), (66, [], Value.agg #[Value.bool v66.Gone, Value.slice v66.B.ptr v66.B.len v66.B.cap, Value.int .i64 v66.At, Value.int .i64 v66.Code]), (70, [], Value.agg #[Value.int .u8 v70.Kind, Value.int .u64 v70.N, Value.int .i64 v70.Width, Value.string v70.Text, Value.int .i64 v70.Most])] (by kernel_rfl) (by kernel_rfl) ?_
                  refine mreg_fork 6 [6, 10] (by kernel_rfl) (by kernel_rfl) (fork_two ?_ ?_)
                  · replace h := h.1
                    refine eff_enter (π := o_towpathlaw02_CodecReads_76_91) (k := 6) (op := (Go.Op.call (Go.Call.mk (Go.Callee.value (Go.Operand.func 16)) #[(Go.Operand.tmp 65), (Go.Operand.tmp 66), (Go.Operand.tmp 70)] #[27, 32, 37]))) (ty := 33) (dst := some 71) 6 [0, 1, 5, 4, 2, 3] [] 16 #[Value.pointer none, Value.agg #[Value.bool v66.Gone, Value.slice v66.B.ptr v66.B.len v66.B.cap, Value.int .i64 v66.At, Value.int .i64 v66.Code], Value.agg #[Value.int .u8 v70.Kind, Value.int .u64 v70.N, Value.int .i64 v70.Width, Value.string v70.Text, Value.int .i64 v70.Most]] (by kernel_rfl) (by kernel_rfl) (by kernel_rfl) (by kernel_rfl) (by kernel_rfl) (by kernel_rfl) (fun ww => by kernel_rfl) (Calls.mono h ?_)
                    rintro _ w36 ⟨v71, one1, rfl, h⟩
                    refine ⟨_, rfl, trivial, ?_⟩
                    refine mreg_run [.plain, .plain, .plain] 10 [(1, [], Value.slice script.ptr script.len script.cap), (6, [], Value.pointer v30), (8, [], Value.pointer (some ⟨b_1, 0, none⟩)), (9, [], Value.pointer none), (10, [], Value.pointer (some ⟨b_2, 0, none⟩)), (11, [], Value.int .i64 i1), (12, [], Value.pointer next), (13, [], Value.bool ok), (72, [], Value.agg #[Value.bool v71.Gone, Value.slice v71.B.ptr v71.B.len v71.B.cap, Value.int .i64 v71.At, Value.int .i64 v71.Code]), (73, [], Value.bool one1)] (by kernel_rfl) (by kernel_rfl) ?_
                    refine mreg_new (op := (Go.Op.alloc 32)) (ty := 0) (dst := some 14) 10 [] [] (fun bb => Value.pointer (some ⟨bb, 0, none⟩)) (Obj.cells ([Value.bool false, Value.slice none 0 0, Value.int .i64 0, Value.int .i64 0]).toArray ty_towpathref02_Reader (0, 0)) (by kernel_rfl) (by kernel_rfl) (by kernel_rfl) (by kernel_rfl) (by kernel_rfl) (by kernel_rfl) (fun b_8 w37 hb hw => ?_)
                    replace h := h b_8 w37 hb hw
                    clear hb hw
                    refine ⟨trivial, ?_⟩
                    refine mreg_run [] 11 [(1, [], Value.slice script.ptr script.len script.cap), (6, [], Value.pointer v30), (8, [], Value.pointer (some ⟨b_1, 0, none⟩)), (9, [], Value.pointer none), (10, [], Value.pointer (some ⟨b_2, 0, none⟩)), (11, [], Value.int .i64 i1), (12, [], Value.pointer next), (13, [], Value.bool ok), (14, [], Value.pointer (some ⟨b_8, 0, none⟩)), (72, [], Value.agg #[Value.bool v71.Gone, Value.slice v71.B.ptr v71.B.len v71.B.cap, Value.int .i64 v71.At, Value.int .i64 v71.Code]), (73, [], Value.bool one1)] (by kernel_rfl) (by kernel_rfl) ?_
                    obtain ⟨hc, h⟩ := h
                    refine mreg_store (t := 32) (a := (Go.Operand.tmp 14)) (x := (Go.Operand.tmp 72)) (b := b_8) (o := 0) (k := 4) (ty := 0) (dst := none) 11 [0, 1, 2, 3, 4, 5, 6, 7, 8, 10] [] [Value.bool v71.Gone, Value.slice v71.B.ptr v71.B.len v71.B.cap, Value.int .i64 v71.At, Value.int .i64 v71.Code] (by kernel_rfl) (by kernel_rfl) (by kernel_rfl) (by kernel_rfl) (by kernel_rfl) (by kernel_rfl) (by kernel_rfl) (by kernel_rfl) (by kernel_rfl) (by kernel_rfl) hc (fun w38 hw => ?_)
                    replace h := h w38 hw
                    clear hw
                    refine ⟨trivial, ?_⟩
                    refine mreg_run [.plain] 13 [(1, [], Value.slice script.ptr script.len script.cap), (6, [], Value.pointer v30), (8, [], Value.pointer (some ⟨b_1, 0, none⟩)), (9, [], Value.pointer none), (10, [], Value.pointer (some ⟨b_2, 0, none⟩)), (11, [], Value.int .i64 i1), (12, [], Value.pointer next), (13, [], Value.bool ok), (15, [], Value.bool one1)] (by kernel_rfl) (by kernel_rfl) ?_
                    refine mreg_end [(1, Value.slice script.ptr script.len script.cap), (6, Value.pointer v30), (8, Value.pointer (some ⟨b_1, 0, none⟩)), (9, Value.pointer none), (10, Value.pointer (some ⟨b_2, 0, none⟩)), (11, Value.int .i64 i1), (12, Value.pointer next), (13, Value.bool ok), (15, Value.bool one1)] (by kernel_rfl) (by kernel_rfl) (by kernel_rfl) ?_
                    exact ⟨[(1, Value.slice script.ptr script.len script.cap), (6, Value.pointer v30), (8, Value.pointer (some ⟨b_1, 0, none⟩)), (9, Value.pointer none), (10, Value.pointer (some ⟨b_2, 0, none⟩)), (11, Value.int .i64 i1), (12, Value.pointer next), (13, Value.bool ok), (15, Value.bool one1)], Sub.mk (by kernel_rfl), one1, rfl, h⟩
                  · replace h := h.2
                    refine eff_new (π := o_towpathlaw02_CodecReads_76_92) (k := 6) (op := (Go.Op.alloc 32)) (ty := 0) (dst := some 14) 10 [] [(5, fun w' => CellsAt w' (pblk script.ptr) ((poff script.ptr) + i1.toNat * 5) [Value.int .u8 v70.Kind, Value.int .u64 v70.N, Value.int .i64 v70.Width, Value.string v70.Text, Value.int .i64 v70.Most]), (1, fun w' => CellsAt w' b_2 0 [Value.bool v66.Gone, Value.slice v66.B.ptr v66.B.len v66.B.cap, Value.int .i64 v66.At, Value.int .i64 v66.Code])] (fun bb => Value.pointer (some ⟨bb, 0, none⟩)) (Obj.cells ([Value.bool false, Value.slice none 0 0, Value.int .i64 0, Value.int .i64 0]).toArray ty_towpathref02_Reader (0, 0)) (by kernel_rfl) (by kernel_rfl) (by kernel_rfl) (by kernel_rfl) (by kernel_rfl) (by kernel_rfl) (by kernel_rfl) (fun b_9 w39 hb hw => ?_)
                    replace h := h b_9 w39 hb hw
                    clear hb hw
                    obtain ⟨hk0, hk1, h⟩ := h
                    refine ⟨⟨hk0, hk1, trivial⟩, ?_⟩
                    refine mreg_run [] 7 [(1, [], Value.slice script.ptr script.len script.cap), (6, [], Value.pointer v30), (8, [], Value.pointer (some ⟨b_1, 0, none⟩)), (9, [], Value.pointer none), (10, [], Value.pointer (some ⟨b_2, 0, none⟩)), (11, [], Value.int .i64 i1), (12, [], Value.pointer next), (13, [], Value.bool ok), (14, [], Value.pointer (some ⟨b_9, 0, none⟩)), (65, [], Value.pointer none), (66, [], Value.agg #[Value.bool v66.Gone, Value.slice v66.B.ptr v66.B.len v66.B.cap, Value.int .i64 v66.At, Value.int .i64 v66.Code]), (70, [], Value.agg #[Value.int .u8 v70.Kind, Value.int .u64 v70.N, Value.int .i64 v70.Width, Value.string v70.Text, Value.int .i64 v70.Most])] (by kernel_rfl) (by kernel_rfl) ?_
                    refine mreg_enter (op := (Go.Op.call (Go.Call.mk (Go.Callee.value (Go.Operand.func 16)) #[(Go.Operand.tmp 65), (Go.Operand.tmp 66), (Go.Operand.tmp 70)] #[27, 32, 37]))) (ty := 33) (dst := some 71) 6 [0, 1, 5, 4, 2, 3] [] 16 #[Value.pointer none, Value.agg #[Value.bool v66.Gone, Value.slice v66.B.ptr v66.B.len v66.B.cap, Value.int .i64 v66.At, Value.int .i64 v66.Code], Value.agg #[Value.int .u8 v70.Kind, Value.int .u64 v70.N, Value.int .i64 v70.Width, Value.string v70.Text, Value.int .i64 v70.Most]] (by kernel_rfl) (by kernel_rfl) (by kernel_rfl) (by kernel_rfl) (by kernel_rfl) (fun ww => by kernel_rfl) (Calls.mono h ?_)
                    rintro _ w40 ⟨v711, one2, rfl, h⟩
                    refine ⟨_, rfl, trivial, ?_⟩
                    refine mreg_run [.plain, .plain, .plain] 11 [(1, [], Value.slice script.ptr script.len script.cap), (6, [], Value.pointer v30), (8, [], Value.pointer (some ⟨b_1, 0, none⟩)), (9, [], Value.pointer none), (10, [], Value.pointer (some ⟨b_2, 0, none⟩)), (11, [], Value.int .i64 i1), (12, [], Value.pointer next), (13, [], Value.bool ok), (14, [], Value.pointer (some ⟨b_9, 0, none⟩)), (72, [], Value.agg #[Value.bool v711.Gone, Value.slice v711.B.ptr v711.B.len v711.B.cap, Value.int .i64 v711.At, Value.int .i64 v711.Code]), (73, [], Value.bool one2)] (by kernel_rfl) (by kernel_rfl) ?_
                    obtain ⟨hc, h⟩ := h
                    refine mreg_store (t := 32) (a := (Go.Operand.tmp 14)) (x := (Go.Operand.tmp 72)) (b := b_9) (o := 0) (k := 4) (ty := 0) (dst := none) 11 [0, 1, 2, 3, 4, 5, 6, 7, 8, 10] [] [Value.bool v711.Gone, Value.slice v711.B.ptr v711.B.len v711.B.cap, Value.int .i64 v711.At, Value.int .i64 v711.Code] (by kernel_rfl) (by kernel_rfl) (by kernel_rfl) (by kernel_rfl) (by kernel_rfl) (by kernel_rfl) (by kernel_rfl) (by kernel_rfl) (by kernel_rfl) (by kernel_rfl) hc (fun w41 hw => ?_)
                    replace h := h w41 hw
                    clear hw
                    refine ⟨trivial, ?_⟩
                    refine mreg_run [.plain] 13 [(1, [], Value.slice script.ptr script.len script.cap), (6, [], Value.pointer v30), (8, [], Value.pointer (some ⟨b_1, 0, none⟩)), (9, [], Value.pointer none), (10, [], Value.pointer (some ⟨b_2, 0, none⟩)), (11, [], Value.int .i64 i1), (12, [], Value.pointer next), (13, [], Value.bool ok), (15, [], Value.bool one2)] (by kernel_rfl) (by kernel_rfl) ?_
                    refine mreg_end [(1, Value.slice script.ptr script.len script.cap), (6, Value.pointer v30), (8, Value.pointer (some ⟨b_1, 0, none⟩)), (9, Value.pointer none), (10, Value.pointer (some ⟨b_2, 0, none⟩)), (11, Value.int .i64 i1), (12, Value.pointer next), (13, Value.bool ok), (15, Value.bool one2)] (by kernel_rfl) (by kernel_rfl) (by kernel_rfl) ?_
                    exact ⟨[(1, Value.slice script.ptr script.len script.cap), (6, Value.pointer v30), (8, Value.pointer (some ⟨b_1, 0, none⟩)), (9, Value.pointer none), (10, Value.pointer (some ⟨b_2, 0, none⟩)), (11, Value.int .i64 i1), (12, Value.pointer next), (13, Value.bool ok), (15, Value.bool one2)], Sub.mk (by kernel_rfl), one2, rfl, h⟩
                · rintro _ w14 ⟨one, rfl, h⟩
                  unfold F_towpathlaw02_CodecReads_k4 at h
                  refine wpE_seq_cut (x := c_towpathlaw02_CodecReads_79) (y := c_towpathlaw02_CodecReads_81) (by kernel_rfl) (fun l w => ∃ (two : Bool), l = [(1, Value.slice script.ptr script.len script.cap), (6, Value.pointer v30), (8, Value.pointer (some ⟨b_1, 0, none⟩)), (9, Value.pointer none), (10, Value.pointer (some ⟨b_2, 0, none⟩)), (11, Value.int .i64 i1), (12, Value.pointer next), (13, Value.bool ok), (15, Value.bool one), (17, Value.bool two)] ∧ F_towpathlaw02_CodecReads_k5 R v30 b_1 i1 again_1 next ok one two w) ?_ ?_
                  · refine wpE_mixregion (id := 19) (ops := r_towpathlaw02_CodecReads_79) o_towpathlaw02_CodecReads_79 (by kernel_rfl) (by kernel_rfl) (by kernel_rfl) (by kernel_rfl) (fun w23 hw => ?_)
                    replace h := h w23 hw
                    clear hw
                    refine mreg_run [.plain] 1 [(1, [], Value.slice script.ptr script.len script.cap), (6, [], Value.pointer v30), (8, [], Value.pointer (some ⟨b_1, 0, none⟩)), (9, [], Value.pointer none), (10, [], Value.pointer (some ⟨b_2, 0, none⟩)), (11, [], Value.int .i64 i1), (12, [], Value.pointer next), (13, [], Value.bool ok), (15, [], Value.bool one), (75, [], Value.agg #[Value.bool false, Value.slice none 0 0, Value.int .i64 0])] (by kernel_rfl) (by kernel_rfl) ?_
                    obtain ⟨v77, hc, h⟩ := h
                    refine mreg_loadN (i := 2) (by kernel_rfl) (t := 32) (a := (Go.Operand.tmp 10)) (b := b_2) (o := 0) (ty := 32) (dst := some 77) [Value.bool v77.Gone, Value.slice v77.B.ptr v77.B.len v77.B.cap, Value.int .i64 v77.At, Value.int .i64 v77.Code] (by kernel_rfl) (by kernel_rfl) (by kernel_rfl) (k := 4) (by kernel_rfl) (by kernel_rfl) hc ?_
                    refine mreg_run [.plain, .plain] 4 [(1, [], Value.slice script.ptr script.len script.cap), (6, [], Value.pointer v30), (8, [], Value.pointer (some ⟨b_1, 0, none⟩)), (9, [], Value.pointer none), (10, [], Value.pointer (some ⟨b_2, 0, none⟩)), (11, [], Value.int .i64 i1), (12, [], Value.pointer next), (13, [], Value.bool ok), (15, [], Value.bool one), (75, [], Value.agg #[Value.bool false, Value.slice none 0 0, Value.int .i64 0]), (77, [], Value.agg #[Value.bool v77.Gone, Value.slice v77.B.ptr v77.B.len v77.B.cap, Value.int .i64 v77.At, Value.int .i64 v77.Code]), (78, [], Value.slice script.ptr script.len script.cap), (79, [], Value.int .i64 i1)] (by kernel_rfl) (by kernel_rfl) ?_
                    obtain ⟨hp_33, h⟩ := h
                    refine mreg_conv [(1, [], Value.slice script.ptr script.len script.cap), (6, [], Value.pointer v30), (8, [], Value.pointer (some ⟨b_1, 0, none⟩)), (9, [], Value.pointer none), (10, [], Value.pointer (some ⟨b_2, 0, none⟩)), (11, [], Value.int .i64 i1), (12, [], Value.pointer next), (13, [], Value.bool ok), (15, [], Value.bool one), (75, [], Value.agg #[Value.bool false, Value.slice none 0 0, Value.int .i64 0]), (77, [], Value.agg #[Value.bool v77.Gone, Value.slice v77.B.ptr v77.B.len v77.B.cap, Value.int .i64 v77.At, Value.int .i64 v77.Code]), (78, [], Value.slice (some ⟨(pblk script.ptr), (poff script.ptr), none⟩) script.len script.cap), (79, [], Value.int .i64 i1)] (congrArg (fun pp => ([(1, [], Value.slice script.ptr script.len script.cap), (6, [], Value.pointer v30), (8, [], Value.pointer (some ⟨b_1, 0, none⟩)), (9, [], Value.pointer none), (10, [], Value.pointer (some ⟨b_2, 0, none⟩)), (11, [], Value.int .i64 i1), (12, [], Value.pointer next), (13, [], Value.bool ok), (15, [], Value.bool one), (75, [], Value.agg #[Value.bool false, Value.slice none 0 0, Value.int .i64 0]), (77, [], Value.agg #[Value.bool v77.Gone, Value.slice v77.B.ptr v77.B.len v77.B.cap, Value.int .i64 v77.At, Value.int .i64 v77.Code]), (78, [], Value.slice pp script.len script.cap), (79, [], Value.int .i64 i1)] : GEnv)) hp_33) ?_
                    obtain ⟨h0, h1, h⟩ := h
                    refine mreg_indexS (i := 5) (by kernel_rfl) (t := 23) (e := 37) (x := (Go.Operand.tmp 78)) (ix := (Go.Operand.tmp 79)) (b := (pblk script.ptr)) (o := (poff script.ptr)) (l := script.len) (c := script.cap) (k := .i64) (j := i1) (ty := 0) (dst := some 80) (sz := 5) (by kernel_rfl) (by kernel_rfl) (by kernel_rfl) (by kernel_rfl) (by kernel_rfl) h0 h1 ?_
                    refine mreg_run [] 5 [(1, [], Value.slice script.ptr script.len script.cap), (6, [], Value.pointer v30), (8, [], Value.pointer (some ⟨b_1, 0, none⟩)), (9, [], Value.pointer none), (10, [], Value.pointer (some ⟨b_2, 0, none⟩)), (11, [], Value.int .i64 i1), (12, [], Value.pointer next), (13, [], Value.bool ok), (15, [], Value.bool one), (75, [], Value.agg #[Value.bool false, Value.slice none 0 0, Value.int .i64 0]), (77, [], Value.agg #[Value.bool v77.Gone, Value.slice v77.B.ptr v77.B.len v77.B.cap, Value.int .i64 v77.At, Value.int .i64 v77.Code]), (80, [], Value.pointer (some ⟨(pblk script.ptr), (poff script.ptr) + i1.toNat * 5, none⟩))] (by kernel_rfl) (by kernel_rfl) ?_
                    obtain ⟨v81, hc, h⟩ := h
                    refine mreg_loadN (i := 6) (by kernel_rfl) (t := 37) (a := (Go.Operand.tmp 80)) (b := (pblk script.ptr)) (o := ((poff script.ptr) + i1.toNat * 5)) (ty := 37) (dst := some 81) [Value.int .u8 v81.Kind, Value.int .u64 v81.N, Value.int .i64 v81.Width, Value.string v81.Text, Value.int .i64 v81.Most] (by kernel_rfl) (by kernel_rfl) (by kernel_rfl) (k := 5) (by kernel_rfl) (by kernel_rfl) hc ?_
                    refine mreg_run [] 6 [(1, [], Value.slice script.ptr script.len script.cap), (6, [], Value.pointer v30), (8, [], Value.pointer (some ⟨b_1, 0, none⟩)), (9, [], Value.pointer none), (10, [], Value.pointer (some ⟨b_2, 0, none⟩)), (11, [], Value.int .i64 i1), (12, [], Value.pointer next), (13, [], Value.bool ok), (15, [], Value.bool one), (75, [], Value.agg #[Value.bool false, Value.slice none 0 0, Value.int .i64 0]), (77, [], Value.agg #[Value.bool v77.Gone, Value.slice v77.B.ptr v77.B.len v77.B.cap, Value.int .i64 v77.At, Value.int .i64 v77.Code]), (81, [], Value.agg #[Value.int .u8 v81.Kind, Value.int .u64 v81.N, Value.int .i64 v81.Width, Value.string v81.Text, Value.int .i64 v81.Most])] (by kernel_rfl) (by kernel_rfl) ?_
                    refine mreg_fork 1 [1, 11] (by kernel_rfl) (by kernel_rfl) (fork_two ?_ ?_)
                    · replace h := h.1
                      refine eff_new (π := o_towpathlaw02_CodecReads_79_86) (k := 6) (op := (Go.Op.box 39 (Go.Operand.tmp 75))) (ty := 27) (dst := some 76) 1 [0] [(6, fun w' => CellsAt w' (pblk script.ptr) ((poff script.ptr) + i1.toNat * 5) [Value.int .u8 v81.Kind, Value.int .u64 v81.N, Value.int .i64 v81.Width, Value.string v81.Text, Value.int .i64 v81.Most]), (2, fun w' => CellsAt w' b_2 0 [Value.bool v77.Gone, Value.slice v77.B.ptr v77.B.len v77.B.cap, Value.int .i64 v77.At, Value.int .i64 v77.Code])] (fun bb => Value.pointer (some ⟨bb, 0, none⟩)) (Obj.cells ([Value.bool false, Value.slice none 0 0, Value.int .i64 0]).toArray ty_codec_Reader (0, 0)) (by kernel_rfl) (by kernel_rfl) (by kernel_rfl) (by kernel_rfl) (by kernel_rfl) (by kernel_rfl) (by kernel_rfl) (fun b_3 w24 hb hw => ?_)
                      replace h := h b_3 w24 hb hw
                      clear hb hw
                      obtain ⟨hk0, hk1, h⟩ := h
                      refine ⟨⟨hk0, hk1, trivial⟩, ?_⟩
                      refine mreg_run [] 7 [(1, [], Value.slice script.ptr script.len script.cap), (6, [], Value.pointer v30), (8, [], Value.pointer (some ⟨b_1, 0, none⟩)), (9, [], Value.pointer none), (10, [], Value.pointer (some ⟨b_2, 0, none⟩)), (11, [], Value.int .i64 i1), (12, [], Value.pointer next), (13, [], Value.bool ok), (15, [], Value.bool one), (76, [], Value.pointer (some ⟨b_3, 0, none⟩)), (77, [], Value.agg #[Value.bool v77.Gone, Value.slice v77.B.ptr v77.B.len v77.B.cap, Value.int .i64 v77.At, Value.int .i64 v77.Code]), (81, [], Value.agg #[Value.int .u8 v81.Kind, Value.int .u64 v81.N, Value.int .i64 v81.Width, Value.string v81.Text, Value.int .i64 v81.Most])] (by kernel_rfl) (by kernel_rfl) ?_
                      refine mreg_fork 7 [7, 11] (by kernel_rfl) (by kernel_rfl) (fork_two ?_ ?_)
                      · replace h := h.1
                        refine eff_enter (π := o_towpathlaw02_CodecReads_79_87) (k := 7) (op := (Go.Op.call (Go.Call.mk (Go.Callee.value (Go.Operand.func 16)) #[(Go.Operand.tmp 76), (Go.Operand.tmp 77), (Go.Operand.tmp 81)] #[27, 32, 37]))) (ty := 33) (dst := some 82) 7 [1, 2, 6, 0, 5, 3, 4] [] 16 #[Value.pointer (some ⟨b_3, 0, none⟩), Value.agg #[Value.bool v77.Gone, Value.slice v77.B.ptr v77.B.len v77.B.cap, Value.int .i64 v77.At, Value.int .i64 v77.Code], Value.agg #[Value.int .u8 v81.Kind, Value.int .u64 v81.N, Value.int .i64 v81.Width, Value.string v81.Text, Value.int .i64 v81.Most]] (by kernel_rfl) (by kernel_rfl) (by kernel_rfl) (by kernel_rfl) (by kernel_rfl) (by kernel_rfl) (fun ww => by kernel_rfl) (Calls.mono h ?_)
                        rintro _ w25 ⟨v82, two1, rfl, h⟩
                        refine ⟨_, rfl, trivial, ?_⟩
                        refine mreg_run [.plain, .plain, .plain] 11 [(1, [], Value.slice script.ptr script.len script.cap), (6, [], Value.pointer v30), (8, [], Value.pointer (some ⟨b_1, 0, none⟩)), (9, [], Value.pointer none), (10, [], Value.pointer (some ⟨b_2, 0, none⟩)), (11, [], Value.int .i64 i1), (12, [], Value.pointer next), (13, [], Value.bool ok), (15, [], Value.bool one), (83, [], Value.agg #[Value.bool v82.Gone, Value.slice v82.B.ptr v82.B.len v82.B.cap, Value.int .i64 v82.At, Value.int .i64 v82.Code]), (84, [], Value.bool two1)] (by kernel_rfl) (by kernel_rfl) ?_
                        refine mreg_new (op := (Go.Op.alloc 32)) (ty := 0) (dst := some 16) 11 [] [] (fun bb => Value.pointer (some ⟨bb, 0, none⟩)) (Obj.cells ([Value.bool false, Value.slice none 0 0, Value.int .i64 0, Value.int .i64 0]).toArray ty_towpathref02_Reader (0, 0)) (by kernel_rfl) (by kernel_rfl) (by kernel_rfl) (by kernel_rfl) (by kernel_rfl) (by kernel_rfl) (fun b_4 w26 hb hw => ?_)
                        replace h := h b_4 w26 hb hw
                        clear hb hw
                        refine ⟨trivial, ?_⟩
                        refine mreg_run [] 12 [(1, [], Value.slice script.ptr script.len script.cap), (6, [], Value.pointer v30), (8, [], Value.pointer (some ⟨b_1, 0, none⟩)), (9, [], Value.pointer none), (10, [], Value.pointer (some ⟨b_2, 0, none⟩)), (11, [], Value.int .i64 i1), (12, [], Value.pointer next), (13, [], Value.bool ok), (15, [], Value.bool one), (16, [], Value.pointer (some ⟨b_4, 0, none⟩)), (83, [], Value.agg #[Value.bool v82.Gone, Value.slice v82.B.ptr v82.B.len v82.B.cap, Value.int .i64 v82.At, Value.int .i64 v82.Code]), (84, [], Value.bool two1)] (by kernel_rfl) (by kernel_rfl) ?_
                        obtain ⟨hc, h⟩ := h
                        refine mreg_store (t := 32) (a := (Go.Operand.tmp 16)) (x := (Go.Operand.tmp 83)) (b := b_4) (o := 0) (k := 4) (ty := 0) (dst := none) 12 [0, 1, 2, 3, 4, 5, 6, 7, 8, 9, 11] [] [Value.bool v82.Gone, Value.slice v82.B.ptr v82.B.len v82.B.cap, Value.int .i64 v82.At, Value.int .i64 v82.Code] (by kernel_rfl) (by kernel_rfl) (by kernel_rfl) (by kernel_rfl) (by kernel_rfl) (by kernel_rfl) (by kernel_rfl) (by kernel_rfl) (by kernel_rfl) (by kernel_rfl) hc (fun w27 hw => ?_)
                        replace h := h w27 hw
                        clear hw
                        refine ⟨trivial, ?_⟩
                        refine mreg_run [.plain] 14 [(1, [], Value.slice script.ptr script.len script.cap), (6, [], Value.pointer v30), (8, [], Value.pointer (some ⟨b_1, 0, none⟩)), (9, [], Value.pointer none), (10, [], Value.pointer (some ⟨b_2, 0, none⟩)), (11, [], Value.int .i64 i1), (12, [], Value.pointer next), (13, [], Value.bool ok), (15, [], Value.bool one), (17, [], Value.bool two1)] (by kernel_rfl) (by kernel_rfl) ?_
                        refine mreg_end [(1, Value.slice script.ptr script.len script.cap), (6, Value.pointer v30), (8, Value.pointer (some ⟨b_1, 0, none⟩)), (9, Value.pointer none), (10, Value.pointer (some ⟨b_2, 0, none⟩)), (11, Value.int .i64 i1), (12, Value.pointer next), (13, Value.bool ok), (15, Value.bool one), (17, Value.bool two1)] (by kernel_rfl) (by kernel_rfl) (by kernel_rfl) ?_
                        exact ⟨[(1, Value.slice script.ptr script.len script.cap), (6, Value.pointer v30), (8, Value.pointer (some ⟨b_1, 0, none⟩)), (9, Value.pointer none), (10, Value.pointer (some ⟨b_2, 0, none⟩)), (11, Value.int .i64 i1), (12, Value.pointer next), (13, Value.bool ok), (15, Value.bool one), (17, Value.bool two1)], Sub.mk (by kernel_rfl), two1, rfl, h⟩
                      · replace h := h.2
                        refine eff_new (π := o_towpathlaw02_CodecReads_79_88) (k := 7) (op := (Go.Op.alloc 32)) (ty := 0) (dst := some 16) 11 [] [(6, fun w' => CellsAt w' (pblk script.ptr) ((poff script.ptr) + i1.toNat * 5) [Value.int .u8 v81.Kind, Value.int .u64 v81.N, Value.int .i64 v81.Width, Value.string v81.Text, Value.int .i64 v81.Most]), (2, fun w' => CellsAt w' b_2 0 [Value.bool v77.Gone, Value.slice v77.B.ptr v77.B.len v77.B.cap, Value.int .i64 v77.At, Value.int .i64 v77.Code])] (fun bb => Value.pointer (some ⟨bb, 0, none⟩)) (Obj.cells ([Value.bool false, Value.slice none 0 0, Value.int .i64 0, Value.int .i64 0]).toArray ty_towpathref02_Reader (0, 0)) (by kernel_rfl) (by kernel_rfl) (by kernel_rfl) (by kernel_rfl) (by kernel_rfl) (by kernel_rfl) (by kernel_rfl) (fun b_5 w28 hb hw => ?_)
                        replace h := h b_5 w28 hb hw
                        clear hb hw
                        obtain ⟨hk0, hk1, h⟩ := h
                        refine ⟨⟨hk0, hk1, trivial⟩, ?_⟩
                        refine mreg_run [] 8 [(1, [], Value.slice script.ptr script.len script.cap), (6, [], Value.pointer v30), (8, [], Value.pointer (some ⟨b_1, 0, none⟩)), (9, [], Value.pointer none), (10, [], Value.pointer (some ⟨b_2, 0, none⟩)), (11, [], Value.int .i64 i1), (12, [], Value.pointer next), (13, [], Value.bool ok), (15, [], Value.bool one), (16, [], Value.pointer (some ⟨b_5, 0, none⟩)), (76, [], Value.pointer (some ⟨b_3, 0, none⟩)), (77, [], Value.agg #[Value.bool v77.Gone, Value.slice v77.B.ptr v77.B.len v77.B.cap, Value.int .i64 v77.At, Value.int .i64 v77.Code]), (81, [], Value.agg #[Value.int .u8 v81.Kind, Value.int .u64 v81.N, Value.int .i64 v81.Width, Value.string v81.Text, Value.int .i64 v81.Most])] (by kernel_rfl) (by kernel_rfl) ?_
                        refine mreg_enter (op := (Go.Op.call (Go.Call.mk (Go.Callee.value (Go.Operand.func 16)) #[(Go.Operand.tmp 76), (Go.Operand.tmp 77), (Go.Operand.tmp 81)] #[27, 32, 37]))) (ty := 33) (dst := some 82) 7 [1, 2, 6, 0, 5, 3, 4] [] 16 #[Value.pointer (some ⟨b_3, 0, none⟩), Value.agg #[Value.bool v77.Gone, Value.slice v77.B.ptr v77.B.len v77.B.cap, Value.int .i64 v77.At, Value.int .i64 v77.Code], Value.agg #[Value.int .u8 v81.Kind, Value.int .u64 v81.N, Value.int .i64 v81.Width, Value.string v81.Text, Value.int .i64 v81.Most]] (by kernel_rfl) (by kernel_rfl) (by kernel_rfl) (by kernel_rfl) (by kernel_rfl) (fun ww => by kernel_rfl) (Calls.mono h ?_)
                        rintro _ w29 ⟨v821, two2, rfl, h⟩
                        refine ⟨_, rfl, trivial, ?_⟩
                        refine mreg_run [.plain, .plain, .plain] 12 [(1, [], Value.slice script.ptr script.len script.cap), (6, [], Value.pointer v30), (8, [], Value.pointer (some ⟨b_1, 0, none⟩)), (9, [], Value.pointer none), (10, [], Value.pointer (some ⟨b_2, 0, none⟩)), (11, [], Value.int .i64 i1), (12, [], Value.pointer next), (13, [], Value.bool ok), (15, [], Value.bool one), (16, [], Value.pointer (some ⟨b_5, 0, none⟩)), (83, [], Value.agg #[Value.bool v821.Gone, Value.slice v821.B.ptr v821.B.len v821.B.cap, Value.int .i64 v821.At, Value.int .i64 v821.Code]), (84, [], Value.bool two2)] (by kernel_rfl) (by kernel_rfl) ?_
                        obtain ⟨hc, h⟩ := h
                        refine mreg_store (t := 32) (a := (Go.Operand.tmp 16)) (x := (Go.Operand.tmp 83)) (b := b_5) (o := 0) (k := 4) (ty := 0) (dst := none) 12 [0, 1, 2, 3, 4, 5, 6, 7, 8, 9, 11] [] [Value.bool v821.Gone, Value.slice v821.B.ptr v821.B.len v821.B.cap, Value.int .i64 v821.At, Value.int .i64 v821.Code] (by kernel_rfl) (by kernel_rfl) (by kernel_rfl) (by kernel_rfl) (by kernel_rfl) (by kernel_rfl) (by kernel_rfl) (by kernel_rfl) (by kernel_rfl) (by kernel_rfl) hc (fun w30 hw => ?_)
                        replace h := h w30 hw
                        clear hw
                        refine ⟨trivial, ?_⟩
                        refine mreg_run [.plain] 14 [(1, [], Value.slice script.ptr script.len script.cap), (6, [], Value.pointer v30), (8, [], Value.pointer (some ⟨b_1, 0, none⟩)), (9, [], Value.pointer none), (10, [], Value.pointer (some ⟨b_2, 0, none⟩)), (11, [], Value.int .i64 i1), (12, [], Value.pointer next), (13, [], Value.bool ok), (15, [], Value.bool one), (17, [], Value.bool two2)] (by kernel_rfl) (by kernel_rfl) ?_
                        refine mreg_end [(1, Value.slice script.ptr script.len script.cap), (6, Value.pointer v30), (8, Value.pointer (some ⟨b_1, 0, none⟩)), (9, Value.pointer none), (10, Value.pointer (some ⟨b_2, 0, none⟩)), (11, Value.int .i64 i1), (12, Value.pointer next), (13, Value.bool ok), (15, Value.bool one), (17, Value.bool two2)] (by kernel_rfl) (by kernel_rfl) (by kernel_rfl) ?_
                        exact ⟨[(1, Value.slice script.ptr script.len script.cap), (6, Value.pointer v30), (8, Value.pointer (some ⟨b_1, 0, none⟩)), (9, Value.pointer none), (10, Value.pointer (some ⟨b_2, 0, none⟩)), (11, Value.int .i64 i1), (12, Value.pointer next), (13, Value.bool ok), (15, Value.bool one), (17, Value.bool two2)], Sub.mk (by kernel_rfl), two2, rfl, h⟩
                    · replace h := h.2
                      refine eff_new (π := o_towpathlaw02_CodecReads_79_89) (k := 6) (op := (Go.Op.alloc 32)) (ty := 0) (dst := some 16) 11 [] [(6, fun w' => CellsAt w' (pblk script.ptr) ((poff script.ptr) + i1.toNat * 5) [Value.int .u8 v81.Kind, Value.int .u64 v81.N, Value.int .i64 v81.Width, Value.string v81.Text, Value.int .i64 v81.Most]), (2, fun w' => CellsAt w' b_2 0 [Value.bool v77.Gone, Value.slice v77.B.ptr v77.B.len v77.B.cap, Value.int .i64 v77.At, Value.int .i64 v77.Code])] (fun bb => Value.pointer (some ⟨bb, 0, none⟩)) (Obj.cells ([Value.bool false, Value.slice none 0 0, Value.int .i64 0, Value.int .i64 0]).toArray ty_towpathref02_Reader (0, 0)) (by kernel_rfl) (by kernel_rfl) (by kernel_rfl) (by kernel_rfl) (by kernel_rfl) (by kernel_rfl) (by kernel_rfl) (fun b_6 w31 hb hw => ?_)
                      replace h := h b_6 w31 hb hw
                      clear hb hw
                      obtain ⟨hk0, hk1, h⟩ := h
                      refine ⟨⟨hk0, hk1, trivial⟩, ?_⟩
                      refine mreg_run [] 7 [(1, [], Value.slice script.ptr script.len script.cap), (6, [], Value.pointer v30), (8, [], Value.pointer (some ⟨b_1, 0, none⟩)), (9, [], Value.pointer none), (10, [], Value.pointer (some ⟨b_2, 0, none⟩)), (11, [], Value.int .i64 i1), (12, [], Value.pointer next), (13, [], Value.bool ok), (15, [], Value.bool one), (16, [], Value.pointer (some ⟨b_6, 0, none⟩)), (75, [], Value.agg #[Value.bool false, Value.slice none 0 0, Value.int .i64 0]), (77, [], Value.agg #[Value.bool v77.Gone, Value.slice v77.B.ptr v77.B.len v77.B.cap, Value.int .i64 v77.At, Value.int .i64 v77.Code]), (81, [], Value.agg #[Value.int .u8 v81.Kind, Value.int .u64 v81.N, Value.int .i64 v81.Width, Value.string v81.Text, Value.int .i64 v81.Most])] (by kernel_rfl) (by kernel_rfl) ?_
                      refine mreg_new (op := (Go.Op.box 39 (Go.Operand.tmp 75))) (ty := 27) (dst := some 76) 1 [0] [(6, fun w' => CellsAt w' (pblk script.ptr) ((poff script.ptr) + i1.toNat * 5) [Value.int .u8 v81.Kind, Value.int .u64 v81.N, Value.int .i64 v81.Width, Value.string v81.Text, Value.int .i64 v81.Most]), (2, fun w' => CellsAt w' b_2 0 [Value.bool v77.Gone, Value.slice v77.B.ptr v77.B.len v77.B.cap, Value.int .i64 v77.At, Value.int .i64 v77.Code])] (fun bb => Value.pointer (some ⟨bb, 0, none⟩)) (Obj.cells ([Value.bool false, Value.slice none 0 0, Value.int .i64 0]).toArray ty_codec_Reader (0, 0)) (by kernel_rfl) (by kernel_rfl) (by kernel_rfl) (by kernel_rfl) (by kernel_rfl) (by kernel_rfl) (fun b_7 w32 hb hw => ?_)
                      replace h := h b_7 w32 hb hw
                      clear hb hw
                      obtain ⟨hk0, hk1, h⟩ := h
                      refine ⟨⟨hk0, hk1, trivial⟩, ?_⟩
                      refine mreg_run [] 8 [(1, [], Value.slice script.ptr script.len script.cap), (6, [], Value.pointer v30), (8, [], Value.pointer (some ⟨b_1, 0, none⟩)), (9, [], Value.pointer none), (10, [], Value.pointer (some ⟨b_2, 0, none⟩)), (11, [], Value.int .i64 i1), (12, [], Value.pointer next), (13, [], Value.bool ok), (15, [], Value.bool one), (16, [], Value.pointer (some ⟨b_6, 0, none⟩)), (76, [], Value.pointer (some ⟨b_7, 0, none⟩)), (77, [], Value.agg #[Value.bool v77.Gone, Value.slice v77.B.ptr v77.B.len v77.B.cap, Value.int .i64 v77.At, Value.int .i64 v77.Code]), (81, [], Value.agg #[Value.int .u8 v81.Kind, Value.int .u64 v81.N, Value.int .i64 v81.Width, Value.string v81.Text, Value.int .i64 v81.Most])] (by kernel_rfl) (by kernel_rfl) ?_
                      refine mreg_enter (op := (Go.Op.call (Go.Call.mk (Go.Callee.value (Go.Operand.func 16)) #[(Go.Operand.tmp 76), (Go.Operand.tmp 77), (Go.Operand.tmp 81)] #[27, 32, 37]))) (ty := 33) (dst := some 82) 7 [1, 2, 6, 0, 5, 3, 4] [] 16 #[Value.pointer (some ⟨b_7, 0, none⟩), Value.agg #[Value.bool v77.Gone, Value.slice v77.B.ptr v77.B.len v77.B.cap, Value.int .i64 v77.At, Value.int .i64 v77.Code], Value.agg #[Value.int .u8 v81.Kind, Value.int .u64 v81.N, Value.int .i64 v81.Width, Value.string v81.Text, Value.int .i64 v81.Most]] (by kernel_rfl) (by kernel_rfl) (by kernel_rfl) (by kernel_rfl) (by kernel_rfl) (fun ww => by kernel_rfl) (Calls.mono h ?_)
                      rintro _ w33 ⟨v822, two3, rfl, h⟩
                      refine ⟨_, rfl, trivial, ?_⟩
                      refine mreg_run [.plain, .plain, .plain] 12 [(1, [], Value.slice script.ptr script.len script.cap), (6, [], Value.pointer v30), (8, [], Value.pointer (some ⟨b_1, 0, none⟩)), (9, [], Value.pointer none), (10, [], Value.pointer (some ⟨b_2, 0, none⟩)), (11, [], Value.int .i64 i1), (12, [], Value.pointer next), (13, [], Value.bool ok), (15, [], Value.bool one), (16, [], Value.pointer (some ⟨b_6, 0, none⟩)), (83, [], Value.agg #[Value.bool v822.Gone, Value.slice v822.B.ptr v822.B.len v822.B.cap, Value.int .i64 v822.At, Value.int .i64 v822.Code]), (84, [], Value.bool two3)] (by kernel_rfl) (by kernel_rfl) ?_
                      obtain ⟨hc, h⟩ := h
                      refine mreg_store (t := 32) (a := (Go.Operand.tmp 16)) (x := (Go.Operand.tmp 83)) (b := b_6) (o := 0) (k := 4) (ty := 0) (dst := none) 12 [0, 1, 2, 3, 4, 5, 6, 7, 8, 9, 11] [] [Value.bool v822.Gone, Value.slice v822.B.ptr v822.B.len v822.B.cap, Value.int .i64 v822.At, Value.int .i64 v822.Code] (by kernel_rfl) (by kernel_rfl) (by kernel_rfl) (by kernel_rfl) (by kernel_rfl) (by kernel_rfl) (by kernel_rfl) (by kernel_rfl) (by kernel_rfl) (by kernel_rfl) hc (fun w34 hw => ?_)
                      replace h := h w34 hw
                      clear hw
                      refine ⟨trivial, ?_⟩
                      refine mreg_run [.plain] 14 [(1, [], Value.slice script.ptr script.len script.cap), (6, [], Value.pointer v30), (8, [], Value.pointer (some ⟨b_1, 0, none⟩)), (9, [], Value.pointer none), (10, [], Value.pointer (some ⟨b_2, 0, none⟩)), (11, [], Value.int .i64 i1), (12, [], Value.pointer next), (13, [], Value.bool ok), (15, [], Value.bool one), (17, [], Value.bool two3)] (by kernel_rfl) (by kernel_rfl) ?_
                      refine mreg_end [(1, Value.slice script.ptr script.len script.cap), (6, Value.pointer v30), (8, Value.pointer (some ⟨b_1, 0, none⟩)), (9, Value.pointer none), (10, Value.pointer (some ⟨b_2, 0, none⟩)), (11, Value.int .i64 i1), (12, Value.pointer next), (13, Value.bool ok), (15, Value.bool one), (17, Value.bool two3)] (by kernel_rfl) (by kernel_rfl) (by kernel_rfl) ?_
                      exact ⟨[(1, Value.slice script.ptr script.len script.cap), (6, Value.pointer v30), (8, Value.pointer (some ⟨b_1, 0, none⟩)), (9, Value.pointer none), (10, Value.pointer (some ⟨b_2, 0, none⟩)), (11, Value.int .i64 i1), (12, Value.pointer next), (13, Value.bool ok), (15, Value.bool one), (17, Value.bool two3)], Sub.mk (by kernel_rfl), two3, rfl, h⟩
                  · rintro _ w15 ⟨two, rfl, h⟩
                    unfold F_towpathlaw02_CodecReads_k5 at h
                    refine wpE_seq (x := c_towpathlaw02_CodecReads_82) (y := c_towpathlaw02_CodecReads_84) (by kernel_rfl) ?_
                    refine wpE_region (id := 20) (ops := r_towpathlaw02_CodecReads_82) (by kernel_rfl) ?_
                    refine reg_run [] 0 [(1, [], Value.slice script.ptr script.len script.cap), (6, [], Value.pointer v30), (8, [], Value.pointer (some ⟨b_1, 0, none⟩)), (9, [], Value.pointer none), (10, [], Value.pointer (some ⟨b_2, 0, none⟩)), (11, [], Value.int .i64 i1), (12, [], Value.pointer next), (13, [], Value.bool ok), (15, [], Value.bool one), (17, [], Value.bool two)] (by kernel_rfl) (by kernel_rfl) ?_
                    obtain ⟨hp_32, h⟩ := h
                    refine reg_conv [(1, [], Value.slice script.ptr script.len script.cap), (6, [], Value.pointer v30), (8, [], Value.pointer (some ⟨b_1, 0, none⟩)), (9, [], Value.pointer none), (10, [], Value.pointer (some ⟨b_2, 0, none⟩)), (11, [], Value.int .i64 i1), (12, [], Value.pointer (some ⟨(pblk next), (poff next), none⟩)), (13, [], Value.bool ok), (15, [], Value.bool one), (17, [], Value.bool two)] (congrArg (fun pp => ([(1, [], Value.slice script.ptr script.len script.cap), (6, [], Value.pointer v30), (8, [], Value.pointer (some ⟨b_1, 0, none⟩)), (9, [], Value.pointer none), (10, [], Value.pointer (some ⟨b_2, 0, none⟩)), (11, [], Value.int .i64 i1), (12, [], Value.pointer pp), (13, [], Value.bool ok), (15, [], Value.bool one), (17, [], Value.bool two)] : GEnv)) hp_32) ?_
                    obtain ⟨v85, hc, h⟩ := h
                    refine reg_loadN (t := 32) (a := (Go.Operand.tmp 12)) (b := (pblk next)) (o := (poff next)) (ty := 32) (dst := some 85) [Value.bool v85.Gone, Value.slice v85.B.ptr v85.B.len v85.B.cap, Value.int .i64 v85.At, Value.int .i64 v85.Code] (by kernel_rfl) (by kernel_rfl) (by kernel_rfl) (k := 4) (by kernel_rfl) (by kernel_rfl) hc ?_
                    refine reg_run [] 1 [(1, [], Value.slice script.ptr script.len script.cap), (6, [], Value.pointer v30), (8, [], Value.pointer (some ⟨b_1, 0, none⟩)), (9, [], Value.pointer none), (10, [], Value.pointer (some ⟨b_2, 0, none⟩)), (11, [], Value.int .i64 i1), (13, [], Value.bool ok), (15, [], Value.bool one), (17, [], Value.bool two), (85, [], Value.agg #[Value.bool v85.Gone, Value.slice v85.B.ptr v85.B.len v85.B.cap, Value.int .i64 v85.At, Value.int .i64 v85.Code])] (by kernel_rfl) (by kernel_rfl) ?_
                    obtain ⟨hc, h⟩ := h
                    refine reg_store (t := 32) (a := (Go.Operand.tmp 8)) (x := (Go.Operand.tmp 85)) (b := b_1) (o := 0) (ty := 0) (dst := none) [Value.bool v85.Gone, Value.slice v85.B.ptr v85.B.len v85.B.cap, Value.int .i64 v85.At, Value.int .i64 v85.Code] (by kernel_rfl) (by kernel_rfl) (by kernel_rfl) (k := 4) (by kernel_rfl) (by kernel_rfl) (by kernel_rfl) hc (fun w16 hw => ?_)
                    replace h := h w16 hw
                    clear hw
                    refine reg_end [(1, Value.slice script.ptr script.len script.cap), (6, Value.pointer v30), (8, Value.pointer (some ⟨b_1, 0, none⟩)), (9, Value.pointer none), (10, Value.pointer (some ⟨b_2, 0, none⟩)), (11, Value.int .i64 i1), (13, Value.bool ok), (15, Value.bool one), (17, Value.bool two)] (by kernel_rfl) (by kernel_rfl) ?_
                    change WpE _ _ c_towpathlaw02_CodecReads_84 _ _ _
                    refine wpE_seq_cut (x := c_towpathlaw02_CodecReads_85) (y := c_towpathlaw02_CodecReads_87) (by kernel_rfl) (fun l w => ∃ (t109 : Bool), l = [(1, Value.slice script.ptr script.len script.cap), (6, Value.pointer v30), (8, Value.pointer (some ⟨b_1, 0, none⟩)), (9, Value.pointer none), (10, Value.pointer (some ⟨b_2, 0, none⟩)), (11, Value.int .i64 i1), (109, Value.bool t109)] ∧ F_towpathlaw02_CodecReads_k6 R i1 again_1 t109 w) ?_ ?_
                    · refine wpE_mixregion (id := 21) (ops := r_towpathlaw02_CodecReads_85) o_towpathlaw02_CodecReads_85 (by kernel_rfl) (by kernel_rfl) (by kernel_rfl) (by kernel_rfl) (fun w18 hw => ?_)
                      replace h := h w18 hw
                      clear hw
                      refine mreg_run [.plain, .plain, .plain, .plain, .plain, .pick, .plain, .plain, .plain, .pick, .plain, .plain] 12 [(1, [], Value.slice script.ptr script.len script.cap), (6, [], Value.pointer v30), (8, [], Value.pointer (some ⟨b_1, 0, none⟩)), (9, [], Value.pointer none), (10, [], Value.pointer (some ⟨b_2, 0, none⟩)), (11, [], Value.int .i64 i1), (96, [], Value.bool (((!ok) || (!one)) || (!two))), (97, [(96, false)], Value.pointer v30)] (by kernel_rfl) (by kernel_rfl) ?_
                      refine mreg_split 96 (((!ok) || (!one)) || (!two)) (by kernel_rfl) (fun hb => ?_) (fun hb => ?_)
                      · replace h := h.1 hb
                        refine mreg_run [] 12 [(1, [], Value.slice script.ptr script.len script.cap), (6, [], Value.pointer v30), (8, [], Value.pointer (some ⟨b_1, 0, none⟩)), (9, [], Value.pointer none), (10, [], Value.pointer (some ⟨b_2, 0, none⟩)), (11, [], Value.int .i64 i1), (96, [], Value.bool true), (97, [], undef)] (by kernel_rfl) (by kernel_rfl) ?_
                        refine mreg_run [.skip, .skip, .skip, .skip, .plain, .plain, .skip, .skip, .skip, .skip, .skip, .plain] 24 [(1, [], Value.slice script.ptr script.len script.cap), (6, [], Value.pointer v30), (8, [], Value.pointer (some ⟨b_1, 0, none⟩)), (9, [], Value.pointer none), (10, [], Value.pointer (some ⟨b_2, 0, none⟩)), (11, [], Value.int .i64 i1), (109, [], Value.bool true)] (by kernel_rfl) (by kernel_rfl) ?_
                        refine mreg_end [(1, Value.slice script.ptr script.len script.cap), (6, Value.pointer v30), (8, Value.pointer (some ⟨b_1, 0, none⟩)), (9, Value.pointer none), (10, Value.pointer (some ⟨b_2, 0, none⟩)), (11, Value.int .i64 i1), (109, Value.bool true)] (by kernel_rfl) (by kernel_rfl) (by kernel_rfl) ?_
                        exact ⟨[(1, Value.slice script.ptr script.len script.cap), (6, Value.pointer v30), (8, Value.pointer (some ⟨b_1, 0, none⟩)), (9, Value.pointer none), (10, Value.pointer (some ⟨b_2, 0, none⟩)), (11, Value.int .i64 i1), (109, Value.bool true)], Sub.mk (by kernel_rfl), true, rfl, h⟩
                      · replace h := h.2 hb
                        refine mreg_run [] 12 [(1, [], Value.slice script.ptr script.len script.cap), (6, [], Value.pointer v30), (8, [], Value.pointer (some ⟨b_1, 0, none⟩)), (9, [], Value.pointer none), (10, [], Value.pointer (some ⟨b_2, 0, none⟩)), (11, [], Value.int .i64 i1), (96, [], Value.bool false), (97, [], Value.pointer v30)] (by kernel_rfl) (by kernel_rfl) ?_
                        refine mreg_run [] 12 [(1, [], Value.slice script.ptr script.len script.cap), (6, [], Value.pointer v30), (8, [], Value.pointer (some ⟨b_1, 0, none⟩)), (9, [], Value.pointer none), (10, [], Value.pointer (some ⟨b_2, 0, none⟩)), (11, [], Value.int .i64 i1), (96, [], Value.bool false), (97, [], Value.pointer v30)] (by kernel_rfl) (by kernel_rfl) ?_
                        obtain ⟨v99, hc, h⟩ := h
                        refine mreg_loadN (i := 13) (by kernel_rfl) (t := 32) (a := (Go.Operand.tmp 8)) (b := b_1) (o := 0) (ty := 32) (dst := some 99) [Value.bool v99.Gone, Value.slice v99.B.ptr v99.B.len v99.B.cap, Value.int .i64 v99.At, Value.int .i64 v99.Code] (by kernel_rfl) (by kernel_rfl) (by kernel_rfl) (k := 4) (by kernel_rfl) (by kernel_rfl) hc ?_
                        refine mreg_run [] 13 [(1, [], Value.slice script.ptr script.len script.cap), (6, [], Value.pointer v30), (8, [], Value.pointer (some ⟨b_1, 0, none⟩)), (9, [], Value.pointer none), (10, [], Value.pointer (some ⟨b_2, 0, none⟩)), (11, [], Value.int .i64 i1), (96, [], Value.bool false), (97, [], Value.pointer v30), (99, [], Value.agg #[Value.bool v99.Gone, Value.slice v99.B.ptr v99.B.len v99.B.cap, Value.int .i64 v99.At, Value.int .i64 v99.Code])] (by kernel_rfl) (by kernel_rfl) ?_
                        refine mreg_enter (op := (Go.Op.call (Go.Call.mk (Go.Callee.value (Go.Operand.func 17)) #[(Go.Operand.tmp 97)] #[27]))) (ty := 3) (dst := some 98) 12 [10, 11, 6, 9, 2, 5, 8, 1, 4, 7, 0, 3] [(13, fun w' => CellsAt w' b_1 0 [Value.bool v99.Gone, Value.slice v99.B.ptr v99.B.len v99.B.cap, Value.int .i64 v99.At, Value.int .i64 v99.Code])] 17 #[Value.pointer v30] (by kernel_rfl) (by kernel_rfl) (by kernel_rfl) (by kernel_rfl) (by kernel_rfl) (fun ww => by kernel_rfl) (Calls.mono h ?_)
                        rintro _ w19 ⟨v98, rfl, h⟩
                        obtain ⟨hk0, h⟩ := h
                        refine ⟨_, rfl, ⟨hk0, trivial⟩, ?_⟩
                        refine mreg_run [] 14 [(1, [], Value.slice script.ptr script.len script.cap), (6, [], Value.pointer v30), (8, [], Value.pointer (some ⟨b_1, 0, none⟩)), (9, [], Value.pointer none), (10, [], Value.pointer (some ⟨b_2, 0, none⟩)), (11, [], Value.int .i64 i1), (96, [], Value.bool false), (98, [], Value.int .i64 v98), (99, [], Value.agg #[Value.bool v99.Gone, Value.slice v99.B.ptr v99.B.len v99.B.cap, Value.int .i64 v99.At, Value.int .i64 v99.Code])] (by kernel_rfl) (by kernel_rfl) ?_
                        refine mreg_enter (op := (Go.Op.call (Go.Call.mk (Go.Callee.value (Go.Operand.func 18)) #[(Go.Operand.tmp 99)] #[32]))) (ty := 3) (dst := some 100) 14 [10, 12, 13, 6, 9, 11, 2, 5, 8, 1, 4, 7, 0, 3] [] 18 #[Value.agg #[Value.bool v99.Gone, Value.slice v99.B.ptr v99.B.len v99.B.cap, Value.int .i64 v99.At, Value.int .i64 v99.Code]] (by kernel_rfl) (by kernel_rfl) (by kernel_rfl) (by kernel_rfl) (by kernel_rfl) (fun ww => by kernel_rfl) (Calls.mono h ?_)
                        rintro _ w20 ⟨v100, rfl, h⟩
                        refine ⟨_, rfl, trivial, ?_⟩
                        refine mreg_run [.sure, .plain, .plain, .plain] 19 [(1, [], Value.slice script.ptr script.len script.cap), (6, [], Value.pointer v30), (8, [], Value.pointer (some ⟨b_1, 0, none⟩)), (9, [], Value.pointer none), (10, [], Value.pointer (some ⟨b_2, 0, none⟩)), (11, [], Value.int .i64 i1), (103, [], Value.bool (v98 != v100)), (104, [(103, false)], Value.pointer v30)] (by kernel_rfl) (by kernel_rfl) ?_
                        refine mreg_split 103 (v98 != v100) (by kernel_rfl) (fun hb => ?_) (fun hb => ?_)
                        · replace h := h.1 hb
                          refine mreg_run [] 19 [(1, [], Value.slice script.ptr script.len script.cap), (6, [], Value.pointer v30), (8, [], Value.pointer (some ⟨b_1, 0, none⟩)), (9, [], Value.pointer none), (10, [], Value.pointer (some ⟨b_2, 0, none⟩)), (11, [], Value.int .i64 i1), (103, [], Value.bool true), (104, [], undef)] (by kernel_rfl) (by kernel_rfl) ?_
                          refine mreg_run [.skip, .skip, .skip, .skip, .plain] 24 [(1, [], Value.slice script.ptr script.len script.cap), (6, [], Value.pointer v30), (8, [], Value.pointer (some ⟨b_1, 0, none⟩)), (9, [], Value.pointer none), (10, [], Value.pointer (some ⟨b_2, 0, none⟩)), (11, [], Value.int .i64 i1), (109, [], Value.bool true)] (by kernel_rfl) (by kernel_rfl) ?_
                          refine mreg_end [(1, Value.slice script.ptr script.len script.cap), (6, Value.pointer v30), (8, Value.pointer (some ⟨b_1, 0, none⟩)), (9, Value.pointer none), (10, Value.pointer (some ⟨b_2, 0, none⟩)), (11, Value.int .i64 i1), (109, Value.bool true)] (by kernel_rfl) (by kernel_rfl) (by kernel_rfl) ?_
                          exact ⟨[(1, Value.slice script.ptr script.len script.cap), (6, Value.pointer v30), (8, Value.pointer (some ⟨b_1, 0, none⟩)), (9, Value.pointer none), (10, Value.pointer (some ⟨b_2, 0, none⟩)), (11, Value.int .i64 i1), (109, Value.bool true)], Sub.mk (by kernel_rfl), true, rfl, h⟩
                        · replace h := h.2 hb
                          refine mreg_run [] 19 [(1, [], Value.slice script.ptr script.len script.cap), (6, [], Value.pointer v30), (8, [], Value.pointer (some ⟨b_1, 0, none⟩)), (9, [], Value.pointer none), (10, [], Value.pointer (some ⟨b_2, 0, none⟩)), (11, [], Value.int .i64 i1), (103, [], Value.bool false), (104, [], Value.pointer v30)] (by kernel_rfl) (by kernel_rfl) ?_
                          refine mreg_run [] 19 [(1, [], Value.slice script.ptr script.len script.cap), (6, [], Value.pointer v30), (8, [], Value.pointer (some ⟨b_1, 0, none⟩)), (9, [], Value.pointer none), (10, [], Value.pointer (some ⟨b_2, 0, none⟩)), (11, [], Value.int .i64 i1), (103, [], Value.bool false), (104, [], Value.pointer v30)] (by kernel_rfl) (by kernel_rfl) ?_
                          obtain ⟨v106, hc, h⟩ := h
                          refine mreg_loadN (i := 20) (by kernel_rfl) (t := 32) (a := (Go.Operand.tmp 8)) (b := b_1) (o := 0) (ty := 32) (dst := some 106) [Value.bool v106.Gone, Value.slice v106.B.ptr v106.B.len v106.B.cap, Value.int .i64 v106.At, Value.int .i64 v106.Code] (by kernel_rfl) (by kernel_rfl) (by kernel_rfl) (k := 4) (by kernel_rfl) (by kernel_rfl) hc ?_
                          refine mreg_run [] 20 [(1, [], Value.slice script.ptr script.len script.cap), (6, [], Value.pointer v30), (8, [], Value.pointer (some ⟨b_1, 0, none⟩)), (9, [], Value.pointer none), (10, [], Value.pointer (some ⟨b_2, 0, none⟩)), (11, [], Value.int .i64 i1), (103, [], Value.bool false), (104, [], Value.pointer v30), (106, [], Value.agg #[Value.bool v106.Gone, Value.slice v106.B.ptr v106.B.len v106.B.cap, Value.int .i64 v106.At, Value.int .i64 v106.Code])] (by kernel_rfl) (by kernel_rfl) ?_
                          refine mreg_enter (op := (Go.Op.call (Go.Call.mk (Go.Callee.value (Go.Operand.func 19)) #[(Go.Operand.tmp 104)] #[27]))) (ty := 30) (dst := some 105) 19 [17, 18, 14, 16, 10, 12, 13, 15, 6, 9, 11, 2, 5, 8, 1, 4, 7, 0, 3] [(20, fun w' => CellsAt w' b_1 0 [Value.bool v106.Gone, Value.slice v106.B.ptr v106.B.len v106.B.cap, Value.int .i64 v106.At, Value.int .i64 v106.Code])] 19 #[Value.pointer v30] (by kernel_rfl) (by kernel_rfl) (by kernel_rfl) (by kernel_rfl) (by kernel_rfl) (fun ww => by kernel_rfl) (Calls.mono h ?_)
                          rintro _ w21 ⟨v105, rfl, h⟩
                          obtain ⟨hk0, h⟩ := h
                          refine ⟨_, rfl, ⟨hk0, trivial⟩, ?_⟩
                          refine mreg_run [] 21 [(1, [], Value.slice script.ptr script.len script.cap), (6, [], Value.pointer v30), (8, [], Value.pointer (some ⟨b_1, 0, none⟩)), (9, [], Value.pointer none), (10, [], Value.pointer (some ⟨b_2, 0, none⟩)), (11, [], Value.int .i64 i1), (103, [], Value.bool false), (105, [], Value.int .i64 v105), (106, [], Value.agg #[Value.bool v106.Gone, Value.slice v106.B.ptr v106.B.len v106.B.cap, Value.int .i64 v106.At, Value.int .i64 v106.Code])] (by kernel_rfl) (by kernel_rfl) ?_
                          refine mreg_enter (op := (Go.Op.call (Go.Call.mk (Go.Callee.value (Go.Operand.func 20)) #[(Go.Operand.tmp 106)] #[32]))) (ty := 30) (dst := some 107) 21 [17, 19, 20, 14, 16, 18, 10, 12, 13, 15, 6, 9, 11, 2, 5, 8, 1, 4, 7, 0, 3] [] 20 #[Value.agg #[Value.bool v106.Gone, Value.slice v106.B.ptr v106.B.len v106.B.cap, Value.int .i64 v106.At, Value.int .i64 v106.Code]] (by kernel_rfl) (by kernel_rfl) (by kernel_rfl) (by kernel_rfl) (by kernel_rfl) (fun ww => by kernel_rfl) (Calls.mono h ?_)
                          rintro _ w22 ⟨v107, rfl, h⟩
                          refine ⟨_, rfl, trivial, ?_⟩
                          refine mreg_run [.sure, .plain] 24 [(1, [], Value.slice script.ptr script.len script.cap), (6, [], Value.pointer v30), (8, [], Value.pointer (some ⟨b_1, 0, none⟩)), (9, [], Value.pointer none), (10, [], Value.pointer (some ⟨b_2, 0, none⟩)), (11, [], Value.int .i64 i1), (109, [], Value.bool (v105 != v107))] (by kernel_rfl) (by kernel_rfl) ?_
                          refine mreg_end [(1, Value.slice script.ptr script.len script.cap), (6, Value.pointer v30), (8, Value.pointer (some ⟨b_1, 0, none⟩)), (9, Value.pointer none), (10, Value.pointer (some ⟨b_2, 0, none⟩)), (11, Value.int .i64 i1), (109, Value.bool (v105 != v107))] (by kernel_rfl) (by kernel_rfl) (by kernel_rfl) ?_
                          exact ⟨[(1, Value.slice script.ptr script.len script.cap), (6, Value.pointer v30), (8, Value.pointer (some ⟨b_1, 0, none⟩)), (9, Value.pointer none), (10, Value.pointer (some ⟨b_2, 0, none⟩)), (11, Value.int .i64 i1), (109, Value.bool (v105 != v107))], Sub.mk (by kernel_rfl), (v105 != v107), rfl, h⟩
                    · rintro _ w17 ⟨t109, rfl, h⟩
                      unfold F_towpathlaw02_CodecReads_k6 at h
                      refine wpE_cond (o := (Operand.tmp 109)) (b := t109) (x := c_towpathlaw02_CodecReads_88) (y := c_towpathlaw02_CodecReads_92) (by kernel_rfl) (by kernel_rfl) (fun hb => ?_) (fun hb => ?_)
                      · replace h := h.1 hb
                        refine wpE_seq (x := c_towpathlaw02_CodecReads_89) (y := c_towpathlaw02_CodecReads_91) (by kernel_rfl) ?_
                        refine wpE_region (id := 22) (ops := r_towpathlaw02_CodecReads_89) (by kernel_rfl) ?_
                        refine reg_run [.plain] 1 [(4, [], Value.bool false)] (by kernel_rfl) (by kernel_rfl) ?_
                        refine reg_end [(4, Value.bool false)] (by kernel_rfl) (by kernel_rfl) ?_
                        change WpE _ _ c_towpathlaw02_CodecReads_91 _ _ _
                        refine wpE_ret (by kernel_rfl) ?_
                        repeat (first | refine seqQ_ret ?_ | refine blockQ_ret ?_ | refine loopQ_ret ?_ | refine cutQ_ret ?_)
                        exact retS (rs := [(Go.ResultVar.tmp 4)]) (v := Value.bool false) (by kernel_rfl) (⟨by kernel_rfl, trivial⟩) ⟨false, rfl, h⟩
                      · replace h := h.2 hb
                        refine wpE_skip (by kernel_rfl) ?_
                        change WpE _ _ c_towpathlaw02_CodecReads_93 _ _ _
                        refine wpE_region (id := 16) (ops := r_towpathlaw02_CodecReads_93) (by kernel_rfl) ?_
                        refine reg_run [.plain, .plain, .plain] 3 [(1, [], Value.slice script.ptr script.len script.cap), (6, [], Value.pointer v30), (8, [], Value.pointer (some ⟨b_1, 0, none⟩)), (9, [], Value.pointer none), (10, [], Value.pointer (some ⟨b_2, 0, none⟩)), (11, [], Value.int .i64 (IntKind.i64.wrap (i1 + 1)))] (by kernel_rfl) (by kernel_rfl) ?_
                        refine reg_end [(1, Value.slice script.ptr script.len script.cap), (6, Value.pointer v30), (8, Value.pointer (some ⟨b_1, 0, none⟩)), (9, Value.pointer none), (10, Value.pointer (some ⟨b_2, 0, none⟩)), (11, Value.int .i64 (IntKind.i64.wrap (i1 + 1)))] (by kernel_rfl) (by kernel_rfl) ?_
                        have hb_ := again_1_h _ _ h
                        exact ⟨_, hb_.2, [(1, Value.slice script.ptr script.len script.cap), (6, Value.pointer v30), (8, Value.pointer (some ⟨b_1, 0, none⟩)), (9, Value.pointer none), (10, Value.pointer (some ⟨b_2, 0, none⟩)), (11, Value.int .i64 (IntKind.i64.wrap (i1 + 1)))], Sub.mk (by kernel_rfl), (IntKind.i64.wrap (i1 + 1)), rfl, hb_.1, rfl⟩
            · replace h := h.2 hb
              refine wpE_exit (id := 2) (by kernel_rfl) ?_
              change WpE _ _ c_towpathlaw02_CodecReads_95 _ _ _
              refine wpE_seq (x := c_towpathlaw02_CodecReads_96) (y := c_towpathlaw02_CodecReads_98) (by kernel_rfl) ?_
              refine wpE_region (id := 23) (ops := r_towpathlaw02_CodecReads_96) (by kernel_rfl) ?_
              refine reg_run [.plain] 1 [(6, [], Value.pointer v30), (8, [], Value.pointer (some ⟨b_1, 0, none⟩)), (9, [], Value.pointer none), (110, [], Value.agg #[Value.bool false, Value.slice none 0 0, Value.int .i64 0])] (by kernel_rfl) (by kernel_rfl) ?_
              refine reg_new (op := (Go.Op.box 39 (Go.Operand.tmp 110))) (ty := 27) (dst := some 111) (fun bb => Value.pointer (some ⟨bb, 0, none⟩)) (Obj.cells ([Value.bool false, Value.slice none 0 0, Value.int .i64 0]).toArray ty_codec_Reader (0, 0)) (by kernel_rfl) (by kernel_rfl) (fun b_12 w49 hb hw => ?_)
              replace h := h b_12 w49 hb hw
              clear hb hw
              refine reg_run [.plain] 3 [(6, [], Value.pointer v30), (8, [], Value.pointer (some ⟨b_1, 0, none⟩)), (9, [], Value.pointer none), (18, [], Value.pointer (some ⟨b_12, 0, none⟩))] (by kernel_rfl) (by kernel_rfl) ?_
              refine reg_end [(6, Value.pointer v30), (8, Value.pointer (some ⟨b_1, 0, none⟩)), (9, Value.pointer none), (18, Value.pointer (some ⟨b_12, 0, none⟩))] (by kernel_rfl) (by kernel_rfl) ?_
              change WpE _ _ c_towpathlaw02_CodecReads_98 _ _ _
              refine wpE_seq (x := c_towpathlaw02_CodecReads_99) (y := c_towpathlaw02_CodecReads_101) (by kernel_rfl) ?_
              refine wpE_mixregion (id := 24) (ops := r_towpathlaw02_CodecReads_99) o_towpathlaw02_CodecReads_99 (by kernel_rfl) (by kernel_rfl) (by kernel_rfl) (by kernel_rfl) (fun w50 hw => ?_)
              replace h := h w50 hw
              clear hw
              refine mreg_run [.plain] 1 [(6, [], Value.pointer v30), (8, [], Value.pointer (some ⟨b_1, 0, none⟩)), (9, [], Value.pointer none), (18, [], Value.pointer (some ⟨b_12, 0, none⟩)), (112, [], Value.pointer v30)] (by kernel_rfl) (by kernel_rfl) ?_
              obtain ⟨v114, hc, h⟩ := h
              refine mreg_loadN (i := 2) (by kernel_rfl) (t := 32) (a := (Go.Operand.tmp 8)) (b := b_1) (o := 0) (ty := 32) (dst := some 114) [Value.bool v114.Gone, Value.slice v114.B.ptr v114.B.len v114.B.cap, Value.int .i64 v114.At, Value.int .i64 v114.Code] (by kernel_rfl) (by kernel_rfl) (by kernel_rfl) (k := 4) (by kernel_rfl) (by kernel_rfl) hc ?_
              refine mreg_run [] 2 [(6, [], Value.pointer v30), (8, [], Value.pointer (some ⟨b_1, 0, none⟩)), (9, [], Value.pointer none), (18, [], Value.pointer (some ⟨b_12, 0, none⟩)), (112, [], Value.pointer v30), (114, [], Value.agg #[Value.bool v114.Gone, Value.slice v114.B.ptr v114.B.len v114.B.cap, Value.int .i64 v114.At, Value.int .i64 v114.Code])] (by kernel_rfl) (by kernel_rfl) ?_
              refine mreg_enter (op := (Go.Op.call (Go.Call.mk (Go.Callee.value (Go.Operand.func 17)) #[(Go.Operand.tmp 112)] #[27]))) (ty := 3) (dst := some 113) 1 [0] [(2, fun w' => CellsAt w' b_1 0 [Value.bool v114.Gone, Value.slice v114.B.ptr v114.B.len v114.B.cap, Value.int .i64 v114.At, Value.int .i64 v114.Code])] 17 #[Value.pointer v30] (by kernel_rfl) (by kernel_rfl) (by kernel_rfl) (by kernel_rfl) (by kernel_rfl) (fun ww => by kernel_rfl) (Calls.mono h ?_)
              rintro _ w51 ⟨v113, rfl, h⟩
              obtain ⟨hk0, h⟩ := h
              refine ⟨_, rfl, ⟨hk0, trivial⟩, ?_⟩
              refine mreg_run [] 3 [(6, [], Value.pointer v30), (8, [], Value.pointer (some ⟨b_1, 0, none⟩)), (9, [], Value.pointer none), (18, [], Value.pointer (some ⟨b_12, 0, none⟩)), (113, [], Value.int .i64 v113), (114, [], Value.agg #[Value.bool v114.Gone, Value.slice v114.B.ptr v114.B.len v114.B.cap, Value.int .i64 v114.At, Value.int .i64 v114.Code])] (by kernel_rfl) (by kernel_rfl) ?_
              refine mreg_enter (op := (Go.Op.call (Go.Call.mk (Go.Callee.value (Go.Operand.func 18)) #[(Go.Operand.tmp 114)] #[32]))) (ty := 3) (dst := some 115) 3 [1, 2, 0] [] 18 #[Value.agg #[Value.bool v114.Gone, Value.slice v114.B.ptr v114.B.len v114.B.cap, Value.int .i64 v114.At, Value.int .i64 v114.Code]] (by kernel_rfl) (by kernel_rfl) (by kernel_rfl) (by kernel_rfl) (by kernel_rfl) (fun ww => by kernel_rfl) (Calls.mono h ?_)
              rintro _ w52 ⟨v115, rfl, h⟩
              refine ⟨_, rfl, trivial, ?_⟩
              refine mreg_run [.plain, .plain, .plain] 7 [(8, [], Value.pointer (some ⟨b_1, 0, none⟩)), (9, [], Value.pointer none), (18, [], Value.pointer (some ⟨b_12, 0, none⟩)), (117, [], Value.bool (v113 == v115)), (118, [(117, true)], Value.pointer v30)] (by kernel_rfl) (by kernel_rfl) ?_
              refine mreg_split 117 (v113 == v115) (by kernel_rfl) (fun hb => ?_) (fun hb => ?_)
              · replace h := h.1 hb
                refine mreg_run [] 7 [(8, [], Value.pointer (some ⟨b_1, 0, none⟩)), (9, [], Value.pointer none), (18, [], Value.pointer (some ⟨b_12, 0, none⟩)), (117, [], Value.bool true), (118, [], Value.pointer v30)] (by kernel_rfl) (by kernel_rfl) ?_
                refine mreg_run [] 7 [(8, [], Value.pointer (some ⟨b_1, 0, none⟩)), (9, [], Value.pointer none), (18, [], Value.pointer (some ⟨b_12, 0, none⟩)), (117, [], Value.bool true), (118, [], Value.pointer v30)] (by kernel_rfl) (by kernel_rfl) ?_
                obtain ⟨v120, hc, h⟩ := h
                refine mreg_loadN (i := 8) (by kernel_rfl) (t := 32) (a := (Go.Operand.tmp 8)) (b := b_1) (o := 0) (ty := 32) (dst := some 120) [Value.bool v120.Gone, Value.slice v120.B.ptr v120.B.len v120.B.cap, Value.int .i64 v120.At, Value.int .i64 v120.Code] (by kernel_rfl) (by kernel_rfl) (by kernel_rfl) (k := 4) (by kernel_rfl) (by kernel_rfl) hc ?_
                refine mreg_run [] 8 [(9, [], Value.pointer none), (18, [], Value.pointer (some ⟨b_12, 0, none⟩)), (117, [], Value.bool true), (118, [], Value.pointer v30), (120, [], Value.agg #[Value.bool v120.Gone, Value.slice v120.B.ptr v120.B.len v120.B.cap, Value.int .i64 v120.At, Value.int .i64 v120.Code])] (by kernel_rfl) (by kernel_rfl) ?_
                refine mreg_enter (op := (Go.Op.call (Go.Call.mk (Go.Callee.value (Go.Operand.func 19)) #[(Go.Operand.tmp 118)] #[27]))) (ty := 30) (dst := some 119) 7 [5, 6, 3, 4, 1, 2, 0] [(8, fun w' => CellsAt w' b_1 0 [Value.bool v120.Gone, Value.slice v120.B.ptr v120.B.len v120.B.cap, Value.int .i64 v120.At, Value.int .i64 v120.Code])] 19 #[Value.pointer v30] (by kernel_rfl) (by kernel_rfl) (by kernel_rfl) (by kernel_rfl) (by kernel_rfl) (fun ww => by kernel_rfl) (Calls.mono h ?_)
                rintro _ w53 ⟨v119, rfl, h⟩
                obtain ⟨hk0, h⟩ := h
                refine ⟨_, rfl, ⟨hk0, trivial⟩, ?_⟩
                refine mreg_run [] 9 [(9, [], Value.pointer none), (18, [], Value.pointer (some ⟨b_12, 0, none⟩)), (117, [], Value.bool true), (119, [], Value.int .i64 v119), (120, [], Value.agg #[Value.bool v120.Gone, Value.slice v120.B.ptr v120.B.len v120.B.cap, Value.int .i64 v120.At, Value.int .i64 v120.Code])] (by kernel_rfl) (by kernel_rfl) ?_
                refine mreg_enter (op := (Go.Op.call (Go.Call.mk (Go.Callee.value (Go.Operand.func 20)) #[(Go.Operand.tmp 120)] #[32]))) (ty := 30) (dst := some 121) 9 [5, 7, 8, 3, 4, 6, 1, 2, 0] [] 20 #[Value.agg #[Value.bool v120.Gone, Value.slice v120.B.ptr v120.B.len v120.B.cap, Value.int .i64 v120.At, Value.int .i64 v120.Code]] (by kernel_rfl) (by kernel_rfl) (by kernel_rfl) (by kernel_rfl) (by kernel_rfl) (fun ww => by kernel_rfl) (Calls.mono h ?_)
                rintro _ w54 ⟨v121, rfl, h⟩
                refine ⟨_, rfl, trivial, ?_⟩
                refine mreg_run [.sure, .plain, .plain, .plain] 14 [(9, [], Value.pointer none), (18, [], Value.pointer (some ⟨b_12, 0, none⟩)), (124, [], Value.bool (v119 == v121)), (125, [(124, true)], Value.pointer none)] (by kernel_rfl) (by kernel_rfl) ?_
                refine mreg_split 124 (v119 == v121) (by kernel_rfl) (fun hb => ?_) (fun hb => ?_)
                · replace h := h.1 hb
                  refine mreg_run [] 14 [(9, [], Value.pointer none), (18, [], Value.pointer (some ⟨b_12, 0, none⟩)), (124, [], Value.bool true), (125, [], Value.pointer none)] (by kernel_rfl) (by kernel_rfl) ?_
                  refine mreg_run [] 14 [(9, [], Value.pointer none), (18, [], Value.pointer (some ⟨b_12, 0, none⟩)), (124, [], Value.bool true), (125, [], Value.pointer none)] (by kernel_rfl) (by kernel_rfl) ?_
                  refine mreg_enter (op := (Go.Op.call (Go.Call.mk (Go.Callee.value (Go.Operand.func 17)) #[(Go.Operand.tmp 125)] #[27]))) (ty := 3) (dst := some 126) 14 [12, 13, 9, 11, 5, 7, 8, 10, 3, 4, 6, 1, 2, 0] [] 17 #[Value.pointer none] (by kernel_rfl) (by kernel_rfl) (by kernel_rfl) (by kernel_rfl) (by kernel_rfl) (fun ww => by kernel_rfl) (Calls.mono h ?_)
                  rintro _ w55 ⟨v126, rfl, h⟩
                  refine ⟨_, rfl, trivial, ?_⟩
                  refine mreg_run [.sure, .plain, .plain, .plain] 19 [(18, [], Value.pointer (some ⟨b_12, 0, none⟩)), (129, [], Value.bool (v126 == 0)), (130, [(129, true)], Value.pointer none)] (by kernel_rfl) (by kernel_rfl) ?_
                  refine mreg_split 129 (v126 == 0) (by kernel_rfl) (fun hb => ?_) (fun hb => ?_)
                  · replace h := h.1 hb
                    refine mreg_run [] 19 [(18, [], Value.pointer (some ⟨b_12, 0, none⟩)), (129, [], Value.bool true), (130, [], Value.pointer none)] (by kernel_rfl) (by kernel_rfl) ?_
                    refine mreg_run [] 19 [(18, [], Value.pointer (some ⟨b_12, 0, none⟩)), (129, [], Value.bool true), (130, [], Value.pointer none)] (by kernel_rfl) (by kernel_rfl) ?_
                    refine mreg_enter (op := (Go.Op.call (Go.Call.mk (Go.Callee.value (Go.Operand.func 19)) #[(Go.Operand.tmp 130)] #[27]))) (ty := 30) (dst := some 131) 19 [17, 18, 14, 16, 12, 13, 15, 9, 11, 5, 7, 8, 10, 3, 4, 6, 1, 2, 0] [] 19 #[Value.pointer none] (by kernel_rfl) (by kernel_rfl) (by kernel_rfl) (by kernel_rfl) (by kernel_rfl) (fun ww => by kernel_rfl) (Calls.mono h ?_)
                    rintro _ w56 ⟨v131, rfl, h⟩
                    refine ⟨_, rfl, trivial, ?_⟩
                    refine mreg_run [.sure, .plain, .plain, .plain] 24 [(18, [], Value.pointer (some ⟨b_12, 0, none⟩)), (134, [], Value.bool (v131 == 2)), (135, [(134, true)], Value.pointer (some ⟨b_12, 0, none⟩))] (by kernel_rfl) (by kernel_rfl) ?_
                    refine mreg_split 134 (v131 == 2) (by kernel_rfl) (fun hb => ?_) (fun hb => ?_)
                    · replace h := h.1 hb
                      refine mreg_run [] 24 [(18, [], Value.pointer (some ⟨b_12, 0, none⟩)), (134, [], Value.bool true), (135, [], Value.pointer (some ⟨b_12, 0, none⟩))] (by kernel_rfl) (by kernel_rfl) ?_
                      refine mreg_run [] 24 [(18, [], Value.pointer (some ⟨b_12, 0, none⟩)), (134, [], Value.bool true), (135, [], Value.pointer (some ⟨b_12, 0, none⟩))] (by kernel_rfl) (by kernel_rfl) ?_
                      refine mreg_enter (op := (Go.Op.call (Go.Call.mk (Go.Callee.value (Go.Operand.func 17)) #[(Go.Operand.tmp 135)] #[27]))) (ty := 3) (dst := some 136) 24 [22, 23, 19, 21, 17, 18, 20, 14, 16, 12, 13, 15, 9, 11, 5, 7, 8, 10, 3, 4, 6, 1, 2, 0] [] 17 #[Value.pointer (some ⟨b_12, 0, none⟩)] (by kernel_rfl) (by kernel_rfl) (by kernel_rfl) (by kernel_rfl) (by kernel_rfl) (fun ww => by kernel_rfl) (Calls.mono h ?_)
                      rintro _ w57 ⟨v136, rfl, h⟩
                      refine ⟨_, rfl, trivial, ?_⟩
                      refine mreg_run [.sure, .plain, .plain, .plain] 29 [(139, [], Value.bool (v136 == 0)), (140, [(139, true)], Value.pointer (some ⟨b_12, 0, none⟩))] (by kernel_rfl) (by kernel_rfl) ?_
                      refine mreg_split 139 (v136 == 0) (by kernel_rfl) (fun hb => ?_) (fun hb => ?_)
                      · replace h := h.1 hb
                        refine mreg_run [] 29 [(139, [], Value.bool true), (140, [], Value.pointer (some ⟨b_12, 0, none⟩))] (by kernel_rfl) (by kernel_rfl) ?_
                        refine mreg_run [] 29 [(139, [], Value.bool true), (140, [], Value.pointer (some ⟨b_12, 0, none⟩))] (by kernel_rfl) (by kernel_rfl) ?_
                        refine mreg_enter (op := (Go.Op.call (Go.Call.mk (Go.Callee.value (Go.Operand.func 19)) #[(Go.Operand.tmp 140)] #[27]))) (ty := 30) (dst := some 141) 29 [27, 28, 24, 26, 22, 23, 25, 19, 21, 17, 18, 20, 14, 16, 12, 13, 15, 9, 11, 5, 7, 8, 10, 3, 4, 6, 1, 2, 0] [] 19 #[Value.pointer (some ⟨b_12, 0, none⟩)] (by kernel_rfl) (by kernel_rfl) (by kernel_rfl) (by kernel_rfl) (by kernel_rfl) (fun ww => by kernel_rfl) (Calls.mono h ?_)
                        rintro _ w58 ⟨v141, rfl, h⟩
                        refine ⟨_, rfl, trivial, ?_⟩
                        refine mreg_run [.sure, .plain, .plain] 33 [(4, [], Value.bool (v141 == 2))] (by kernel_rfl) (by kernel_rfl) ?_
                        refine mreg_end [(4, Value.bool (v141 == 2))] (by kernel_rfl) (by kernel_rfl) (by kernel_rfl) ?_
                        change WpE _ _ c_towpathlaw02_CodecReads_101 _ _ _
                        refine wpE_ret (by kernel_rfl) ?_
                        repeat (first | refine seqQ_ret ?_ | refine blockQ_ret ?_ | refine loopQ_ret ?_ | refine cutQ_ret ?_)
                        exact retS (rs := [(Go.ResultVar.tmp 4)]) (v := Value.bool (v141 == 2)) (by kernel_rfl) (⟨by kernel_rfl, trivial⟩) ⟨(v141 == 2), rfl, h⟩
                      · replace h := h.2 hb
                        refine mreg_run [] 29 [(139, [], Value.bool false), (140, [], undef)] (by kernel_rfl) (by kernel_rfl) ?_
                        refine mreg_run [.skip, .skip, .plain, .plain] 33 [(4, [], Value.bool false)] (by kernel_rfl) (by kernel_rfl) ?_
                        refine mreg_end [(4, Value.bool false)] (by kernel_rfl) (by kernel_rfl) (by kernel_rfl) ?_
                        change WpE _ _ c_towpathlaw02_CodecReads_101 _ _ _
                        refine wpE_ret (by kernel_rfl) ?_
                        repeat (first | refine seqQ_ret ?_ | refine blockQ_ret ?_ | refine loopQ_ret ?_ | refine cutQ_ret ?_)
                        exact retS (rs := [(Go.ResultVar.tmp 4)]) (v := Value.bool false) (by kernel_rfl) (⟨by kernel_rfl, trivial⟩) ⟨false, rfl, h⟩
                    · replace h := h.2 hb
                      refine mreg_run [] 24 [(18, [], Value.pointer (some ⟨b_12, 0, none⟩)), (134, [], Value.bool false), (135, [], undef)] (by kernel_rfl) (by kernel_rfl) ?_
                      refine mreg_run [.skip, .skip, .plain, .plain, .skip, .skip, .skip, .plain, .plain] 33 [(4, [], Value.bool false)] (by kernel_rfl) (by kernel_rfl) ?_
                      refine mreg_end [(4, Value.bool false)] (by kernel_rfl) (by kernel_rfl) (by kernel_rfl) ?_
                      change WpE _ _ c_towpathlaw02_CodecReads_101 _ _ _
                      refine wpE_ret (by kernel_rfl) ?_
                      repeat (first | refine seqQ_ret ?_ | refine blockQ_ret ?_ | refine loopQ_ret ?_ | refine cutQ_ret ?_)
                      exact retS (rs := [(Go.ResultVar.tmp 4)]) (v := Value.bool false) (by kernel_rfl) (⟨by kernel_rfl, trivial⟩) ⟨false, rfl, h⟩
                  · replace h := h.2 hb
                    refine mreg_run [] 19 [(18, [], Value.pointer (some ⟨b_12, 0, none⟩)), (129, [], Value.bool false), (130, [], undef)] (by kernel_rfl) (by kernel_rfl) ?_
                    refine mreg_run [.skip, .skip, .plain, .plain, .skip, .skip, .skip, .plain, .plain, .skip, .skip, .skip, .plain, .plain] 33 [(4, [], Value.bool false)] (by kernel_rfl) (by kernel_rfl) ?_
                    refine mreg_end [(4, Value.bool false)] (by kernel_rfl) (by kernel_rfl) (by kernel_rfl) ?_
                    change WpE _ _ c_towpathlaw02_CodecReads_101 _ _ _
                    refine wpE_ret (by kernel_rfl) ?_
                    repeat (first | refine seqQ_ret ?_ | refine blockQ_ret ?_ | refine loopQ_ret ?_ | refine cutQ_ret ?_)
                    exact retS (rs := [(Go.ResultVar.tmp 4)]) (v := Value.bool false) (by kernel_rfl) (⟨by kernel_rfl, trivial⟩) ⟨false, rfl, h⟩
                · replace h := h.2 hb
                  refine mreg_run [] 14 [(9, [], Value.pointer none), (18, [], Value.pointer (some ⟨b_12, 0, none⟩)), (124, [], Value.bool false), (125, [], undef)] (by kernel_rfl) (by kernel_rfl) ?_
                  refine mreg_run [.skip, .skip, .plain, .plain, .skip, .skip, .skip, .plain, .plain, .skip, .skip, .skip, .plain, .plain, .skip, .skip, .skip, .plain, .plain] 33 [(4, [], Value.bool false)] (by kernel_rfl) (by kernel_rfl) ?_
                  refine mreg_end [(4, Value.bool false)] (by kernel_rfl) (by kernel_rfl) (by kernel_rfl) ?_
                  change WpE _ _ c_towpathlaw02_CodecReads_101 _ _ _
                  refine wpE_ret (by kernel_rfl) ?_
                  repeat (first | refine seqQ_ret ?_ | refine blockQ_ret ?_ | refine loopQ_ret ?_ | refine cutQ_ret ?_)
                  exact retS (rs := [(Go.ResultVar.tmp 4)]) (v := Value.bool false) (by kernel_rfl) (⟨by kernel_rfl, trivial⟩) ⟨false, rfl, h⟩
              · replace h := h.2 hb
                refine mreg_run [] 7 [(8, [], Value.pointer (some ⟨b_1, 0, none⟩)), (9, [], Value.pointer none), (18, [], Value.pointer (some ⟨b_12, 0, none⟩)), (117, [], Value.bool false), (118, [], undef)] (by kernel_rfl) (by kernel_rfl) ?_
                refine mreg_run [.skip, .skip, .skip, .skip, .plain, .plain, .skip, .skip, .skip, .plain, .plain, .skip, .skip, .skip, .plain, .plain, .skip, .skip, .skip, .plain, .plain, .skip, .skip, .skip, .plain, .plain] 33 [(4, [], Value.bool false)] (by kernel_rfl) (by kernel_rfl) ?_
                refine mreg_end [(4, Value.bool false)] (by kernel_rfl) (by kernel_rfl) (by kernel_rfl) ?_
                change WpE _ _ c_towpathlaw02_CodecReads_101 _ _ _
                refine wpE_ret (by kernel_rfl) ?_
                repeat (first | refine seqQ_ret ?_ | refine blockQ_ret ?_ | refine loopQ_ret ?_ | refine cutQ_ret ?_)
                exact retS (rs := [(Go.ResultVar.tmp 4)]) (v := Value.bool false) (by kernel_rfl) (⟨by kernel_rfl, trivial⟩) ⟨false, rfl, h⟩
  · rintro e w' ⟨v, rfl, r0, rfl, h⟩; exact ⟨r0, rfl, h⟩
end Go.Proofs.Ytckmganidgbpgaa
