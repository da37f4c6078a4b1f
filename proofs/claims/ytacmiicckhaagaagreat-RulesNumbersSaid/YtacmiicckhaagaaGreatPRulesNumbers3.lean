/- What RulesNumbers rests on, part 3: lemmas, no claim of its own. -/
import Derived.Test.YtacmiicckhaagaaGreatChecked
import Derived.KernelRfl
import Derived.OpenShut
import Derived.ChangeArms
import Derived.Laws.Rows
import Derived.Test.YtacmiicckhaagaaGreatPRulesNumbers2
set_option maxRecDepth 100000
set_option maxHeartbeats 16000000
open Nat renaming reduceAdd → qa, reduceMul → qb, reduceSub → qc
section
set_option maxRecDepth 100000
set_option linter.unusedVariables false
namespace Go.Proofs.YtacmiicckhaagaaGreat
open Go.Ab
def tab:List (Nat × Nat × AFun):=[(10,15,A_xlaw00_Place),
 (86,14,A_xlaw00_Prog),
 (87,20,A_xref04_Check),
 (97,31,A_xlaw00_Instr),
 (98,35,A_xref04_Instr),
 (99,36,A_xref04_Events),
 (100,37,A_xref04_Paths),
 (107,63,A_xlaw00_Expr),
 (108,64,A_xlaw00_num),
 (109,67,A_xref02_Check),
 (110,68,A_xref04_Uses),
 (111,29,A_xref03_SameInstr),
 (115,59,A_xref02_Eval),
 (123,87,A_xlaw00_reg),
 (124,88,A_xlaw00_op),
 (125,100,A_xref02_word),
 (126,60,A_xref02_Regs),
 (127,62,A_xref02_Same),
 (128,85,A_xref02_Do),
 (132,34,A_xref05_Put),
 (266,112,A_cmp_isNaN_int),
 (280,21,A_sound_Check),
 (282,38,A_sound_Instr),
 (287,7,A_rules_Apply),
 (288,9,A_rules_Can),
 (289,6,A_xlaw24_awake),
 (290,18,A_rules_Targets),
 (291,12,A_rules_Join),
 (296,17,A_xref06_SameInts),
 (301,39,A_sound_Events),
 (302,40,A_sound_Paths),
 (303,69,A_sound_of),
 (304,70,A_sound_Instr_1),
 (305,71,A_sound_mode),
 (306,72,A_sound_part),
 (307,74,A_expr_Regs),
 (308,75,A_expr_Check),
 (309,22,A_rules_all),
 (310,30,A_rules_bar),
 (330,101,A_sound_kinds),
 (331,103,A_expr_may),
 (332,41,A_rules_canSwap),
 (333,42,A_rules_swap),
 (334,43,A_rules_canDrop),
 (335,44,A_rules_dropWrite),
 (336,45,A_rules_canRead),
 (337,46,A_rules_readWrite),
 (338,47,A_rules_canAgain),
 (339,48,A_rules_readRead),
 (340,49,A_rules_canMerge),
 (341,50,A_rules_merge),
 (342,51,A_rules_canStrengthen),
 (343,52,A_rules_strengthen),
 (344,53,A_rules_canInsert),
 (345,54,A_rules_insert),
 (346,55,A_rules_canFold),
 (347,56,A_rules_fold),
 (351,76,A_rules_at_both),
 (352,77,A_rules_at_i),
 (353,78,A_rules_at_k),
 (354,79,A_rules_canSwap_1),
 (355,80,A_rules_meets),
 (356,81,A_rules_at_reads),
 (357,83,A_rules_at_has),
 (358,84,A_expr_Eval),
 (359,95,A_cmp_Less_int),
 (360,104,A_rules_sets),
 (361,105,A_expr_ops),
 (362,113,A_expr_ops_1),
 (363,114,A_expr_ops_2),
 (364,115,A_expr_ops_3),
 (365,116,A_expr_ops_4),
 (366,117,A_expr_ops_5),
 (367,118,A_expr_one),
 (368,119,A_expr_ops_6),
 (369,73,A_slices_Contains_lint_int),
 (370,23,A_slices_Clone_llapi_Instr_lapi_Instr),
 (371,32,A_slices_Sort_lint_int),
 (372,33,A_slices_Compact_lint_int),
 (378,82,A_slices_Clone_lapi_Tok_api_Tok),
 (419,102,A_slices_Index_lint_int),
 (420,65,A_slices_pdqsortOrdered_int),
 (421,66,A_math_bits_Len),
 (424,89,A_slices_insertionSortOrdered_int),
 (425,90,A_slices_heapSortOrdered_int),
 (426,91,A_slices_breakPatternsOrdered_int),
 (427,92,A_slices_choosePivotOrdered_int),
 (428,93,A_slices_reverseRangeOrdered_int),
 (429,94,A_slices_partialInsertionSortOrdered_int),
 (430,96,A_slices_partitionEqualOrdered_int),
 (431,97,A_slices_partitionOrdered_int),
 (432,98,A_math_bits_Len32),
 (433,99,A_math_bits_Len64),
 (442,107,A_slices_siftDownOrdered_int),
 (443,108,A_slices_nextPowerOfTwo),
 (444,109,A_slices_xorshift_Next),
 (445,110,A_slices_medianAdjacentOrdered_int),
 (446,111,A_slices_medianOrdered_int),
 (450,120,A_slices_order2Ordered_int),
 (544,3,A_xlaw24_RulesAll),
 (545,4,A_xlaw24_RulesNumbers),
 (546,5,A_xlaw00_FewProg),
 (547,8,A_xref24_Apply),
 (548,10,A_xref24_Can),
 (549,11,A_xref03_Same),
 (550,13,A_xref24_Join),
 (551,16,A_xlaw00_Step),
 (552,19,A_xref24_Targets),
 (553,24,A_xref24_turned),
 (554,25,A_xref24_stronger),
 (555,26,A_xref24_folds),
 (556,27,A_xref24_target),
 (557,28,A_xref24_pair),
 (558,57,A_xref24_cut),
 (559,58,A_xref24_reach),
 (560,61,A_xref24_swap),
 (561,86,A_xref24_touches),
 (562,106,A_xref24_sets)]
def num (f:Nat):Nat:=((tab.find? (fun r => r.1 == f)).map (·.2.1)).getD 0
def funs:Funs:=fun f => (tab.find? (fun r => r.1 == f)).map (·.2.2)
theorem c10:funB Tryz.prog num Tryz.f15 A_xlaw00_Place = true:=by kernel_rfl
theorem c86:funB Tryz.prog num Tryz.f14 A_xlaw00_Prog = true:=by kernel_rfl
theorem c87:funB Tryz.prog num Tryz.f20 A_xref04_Check = true:=by kernel_rfl
theorem c97:funB Tryz.prog num Tryz.f31 A_xlaw00_Instr = true:=by kernel_rfl
theorem c98:funB Tryz.prog num Tryz.f35 A_xref04_Instr = true:=by kernel_rfl
theorem c99:funB Tryz.prog num Tryz.f36 A_xref04_Events = true:=by kernel_rfl
theorem c100:funB Tryz.prog num Tryz.f37 A_xref04_Paths = true:=by kernel_rfl
theorem c107:funB Tryz.prog num Tryz.f63 A_xlaw00_Expr = true:=by kernel_rfl
theorem c108:funB Tryz.prog num Tryz.f64 A_xlaw00_num = true:=by kernel_rfl
theorem c109:funB Tryz.prog num Tryz.f67 A_xref02_Check = true:=by kernel_rfl
theorem c110:funB Tryz.prog num Tryz.f68 A_xref04_Uses = true:=by kernel_rfl
theorem c111:funB Tryz.prog num Tryz.f29 A_xref03_SameInstr = true:=by kernel_rfl
theorem c115:funB Tryz.prog num Tryz.f59 A_xref02_Eval = true:=by kernel_rfl
theorem c123:funB Tryz.prog num Tryz.f87 A_xlaw00_reg = true:=by kernel_rfl
theorem c124:funB Tryz.prog num Tryz.f88 A_xlaw00_op = true:=by kernel_rfl
theorem c125:funB Tryz.prog num Tryz.f100 A_xref02_word = true:=by kernel_rfl
theorem c126:funB Tryz.prog num Tryz.f60 A_xref02_Regs = true:=by kernel_rfl
theorem c127:funB Tryz.prog num Tryz.f62 A_xref02_Same = true:=by kernel_rfl
theorem c128:funB Tryz.prog num Tryz.f85 A_xref02_Do = true:=by kernel_rfl
theorem c132:funB Tryz.prog num Tryz.f34 A_xref05_Put = true:=by kernel_rfl
theorem c266:funB Tryz.prog num Tryz.f112 A_cmp_isNaN_int = true:=by kernel_rfl
theorem c280:funB Tryz.prog num Tryz.f21 A_sound_Check = true:=by kernel_rfl
theorem c282:funB Tryz.prog num Tryz.f38 A_sound_Instr = true:=by kernel_rfl
theorem c287:funB Tryz.prog num Tryz.f7 A_rules_Apply = true:=by kernel_rfl
theorem c288:funB Tryz.prog num Tryz.f9 A_rules_Can = true:=by kernel_rfl
theorem c289:funB Tryz.prog num Tryz.f6 A_xlaw24_awake = true:=by kernel_rfl
theorem c290:funB Tryz.prog num Tryz.f18 A_rules_Targets = true:=by kernel_rfl
theorem c291:funB Tryz.prog num Tryz.f12 A_rules_Join = true:=by kernel_rfl
theorem c296:funB Tryz.prog num Tryz.f17 A_xref06_SameInts = true:=by kernel_rfl
theorem c301:funB Tryz.prog num Tryz.f39 A_sound_Events = true:=by kernel_rfl
theorem c302:funB Tryz.prog num Tryz.f40 A_sound_Paths = true:=by kernel_rfl
theorem c303:funB Tryz.prog num Tryz.f69 A_sound_of = true:=by kernel_rfl
theorem c304:funB Tryz.prog num Tryz.f70 A_sound_Instr_1 = true:=by kernel_rfl
theorem c305:funB Tryz.prog num Tryz.f71 A_sound_mode = true:=by kernel_rfl
theorem c306:funB Tryz.prog num Tryz.f72 A_sound_part = true:=by kernel_rfl
theorem c307:funB Tryz.prog num Tryz.f74 A_expr_Regs = true:=by kernel_rfl
theorem c308:funB Tryz.prog num Tryz.f75 A_expr_Check = true:=by kernel_rfl
theorem c309:funB Tryz.prog num Tryz.f22 A_rules_all = true:=by kernel_rfl
theorem c310:funB Tryz.prog num Tryz.f30 A_rules_bar = true:=by kernel_rfl
theorem c330:funB Tryz.prog num Tryz.f101 A_sound_kinds = true:=by kernel_rfl
theorem c331:funB Tryz.prog num Tryz.f103 A_expr_may = true:=by kernel_rfl
theorem c332:funB Tryz.prog num Tryz.f41 A_rules_canSwap = true:=by kernel_rfl
theorem c333:funB Tryz.prog num Tryz.f42 A_rules_swap = true:=by kernel_rfl
theorem c334:funB Tryz.prog num Tryz.f43 A_rules_canDrop = true:=by kernel_rfl
theorem c335:funB Tryz.prog num Tryz.f44 A_rules_dropWrite = true:=by kernel_rfl
theorem c336:funB Tryz.prog num Tryz.f45 A_rules_canRead = true:=by kernel_rfl
theorem c337:funB Tryz.prog num Tryz.f46 A_rules_readWrite = true:=by kernel_rfl
theorem c338:funB Tryz.prog num Tryz.f47 A_rules_canAgain = true:=by kernel_rfl
theorem c339:funB Tryz.prog num Tryz.f48 A_rules_readRead = true:=by kernel_rfl
theorem c340:funB Tryz.prog num Tryz.f49 A_rules_canMerge = true:=by kernel_rfl
theorem c341:funB Tryz.prog num Tryz.f50 A_rules_merge = true:=by kernel_rfl
theorem c342:funB Tryz.prog num Tryz.f51 A_rules_canStrengthen = true:=by kernel_rfl
theorem c343:funB Tryz.prog num Tryz.f52 A_rules_strengthen = true:=by kernel_rfl
theorem c344:funB Tryz.prog num Tryz.f53 A_rules_canInsert = true:=by kernel_rfl
theorem c345:funB Tryz.prog num Tryz.f54 A_rules_insert = true:=by kernel_rfl
theorem c346:funB Tryz.prog num Tryz.f55 A_rules_canFold = true:=by kernel_rfl
theorem c347:funB Tryz.prog num Tryz.f56 A_rules_fold = true:=by kernel_rfl
theorem c351:funB Tryz.prog num Tryz.f76 A_rules_at_both = true:=by kernel_rfl
theorem c352:funB Tryz.prog num Tryz.f77 A_rules_at_i = true:=by kernel_rfl
theorem c353:funB Tryz.prog num Tryz.f78 A_rules_at_k = true:=by kernel_rfl
theorem c354:funB Tryz.prog num Tryz.f79 A_rules_canSwap_1 = true:=by kernel_rfl
theorem c355:funB Tryz.prog num Tryz.f80 A_rules_meets = true:=by kernel_rfl
theorem c356:funB Tryz.prog num Tryz.f81 A_rules_at_reads = true:=by kernel_rfl
theorem c357:funB Tryz.prog num Tryz.f83 A_rules_at_has = true:=by kernel_rfl
theorem c358:funB Tryz.prog num Tryz.f84 A_expr_Eval = true:=by kernel_rfl
theorem c359:funB Tryz.prog num Tryz.f95 A_cmp_Less_int = true:=by kernel_rfl
theorem c360:funB Tryz.prog num Tryz.f104 A_rules_sets = true:=by kernel_rfl
theorem c361:funB Tryz.prog num Tryz.f105 A_expr_ops = true:=by kernel_rfl
theorem c362:funB Tryz.prog num Tryz.f113 A_expr_ops_1 = true:=by kernel_rfl
theorem c363:funB Tryz.prog num Tryz.f114 A_expr_ops_2 = true:=by kernel_rfl
theorem c364:funB Tryz.prog num Tryz.f115 A_expr_ops_3 = true:=by kernel_rfl
theorem c365:funB Tryz.prog num Tryz.f116 A_expr_ops_4 = true:=by kernel_rfl
theorem c366:funB Tryz.prog num Tryz.f117 A_expr_ops_5 = true:=by kernel_rfl
theorem c367:funB Tryz.prog num Tryz.f118 A_expr_one = true:=by kernel_rfl
theorem c368:funB Tryz.prog num Tryz.f119 A_expr_ops_6 = true:=by kernel_rfl
theorem c369:funB Tryz.prog num Tryz.f73 A_slices_Contains_lint_int = true:=by kernel_rfl
theorem c370:funB Tryz.prog num Tryz.f23 A_slices_Clone_llapi_Instr_lapi_Instr = true:=by kernel_rfl
theorem c371:funB Tryz.prog num Tryz.f32 A_slices_Sort_lint_int = true:=by kernel_rfl
theorem c372:funB Tryz.prog num Tryz.f33 A_slices_Compact_lint_int = true:=by kernel_rfl
theorem c378:funB Tryz.prog num Tryz.f82 A_slices_Clone_lapi_Tok_api_Tok = true:=by kernel_rfl
theorem c419:funB Tryz.prog num Tryz.f102 A_slices_Index_lint_int = true:=by kernel_rfl
theorem c420:funB Tryz.prog num Tryz.f65 A_slices_pdqsortOrdered_int = true:=by kernel_rfl
theorem c421:funB Tryz.prog num Tryz.f66 A_math_bits_Len = true:=by kernel_rfl
theorem c424:funB Tryz.prog num Tryz.f89 A_slices_insertionSortOrdered_int = true:=by kernel_rfl
theorem c425:funB Tryz.prog num Tryz.f90 A_slices_heapSortOrdered_int = true:=by kernel_rfl
theorem c426:funB Tryz.prog num Tryz.f91 A_slices_breakPatternsOrdered_int = true:=by kernel_rfl
theorem c427:funB Tryz.prog num Tryz.f92 A_slices_choosePivotOrdered_int = true:=by kernel_rfl
theorem c428:funB Tryz.prog num Tryz.f93 A_slices_reverseRangeOrdered_int = true:=by kernel_rfl
theorem c429:funB Tryz.prog num Tryz.f94 A_slices_partialInsertionSortOrdered_int = true:=by kernel_rfl
theorem c430:funB Tryz.prog num Tryz.f96 A_slices_partitionEqualOrdered_int = true:=by kernel_rfl
theorem c431:funB Tryz.prog num Tryz.f97 A_slices_partitionOrdered_int = true:=by kernel_rfl
theorem c432:funB Tryz.prog num Tryz.f98 A_math_bits_Len32 = true:=by kernel_rfl
theorem c433:funB Tryz.prog num Tryz.f99 A_math_bits_Len64 = true:=by kernel_rfl
theorem c442:funB Tryz.prog num Tryz.f107 A_slices_siftDownOrdered_int = true:=by kernel_rfl
theorem c443:funB Tryz.prog num Tryz.f108 A_slices_nextPowerOfTwo = true:=by kernel_rfl
theorem c444:funB Tryz.prog num Tryz.f109 A_slices_xorshift_Next = true:=by kernel_rfl
theorem c445:funB Tryz.prog num Tryz.f110 A_slices_medianAdjacentOrdered_int = true:=by kernel_rfl
theorem c446:funB Tryz.prog num Tryz.f111 A_slices_medianOrdered_int = true:=by kernel_rfl
theorem c450:funB Tryz.prog num Tryz.f120 A_slices_order2Ordered_int = true:=by kernel_rfl
theorem c544:funB Tryz.prog num Tryz.f3 A_xlaw24_RulesAll = true:=by kernel_rfl
theorem c545:funB Tryz.prog num Tryz.f4 A_xlaw24_RulesNumbers = true:=by kernel_rfl
theorem c546:funB Tryz.prog num Tryz.f5 A_xlaw00_FewProg = true:=by kernel_rfl
theorem c547:funB Tryz.prog num Tryz.f8 A_xref24_Apply = true:=by kernel_rfl
theorem c548:funB Tryz.prog num Tryz.f10 A_xref24_Can = true:=by kernel_rfl
theorem c549:funB Tryz.prog num Tryz.f11 A_xref03_Same = true:=by kernel_rfl
theorem c550:funB Tryz.prog num Tryz.f13 A_xref24_Join = true:=by kernel_rfl
theorem c551:funB Tryz.prog num Tryz.f16 A_xlaw00_Step = true:=by kernel_rfl
theorem c552:funB Tryz.prog num Tryz.f19 A_xref24_Targets = true:=by kernel_rfl
theorem c553:funB Tryz.prog num Tryz.f24 A_xref24_turned = true:=by kernel_rfl
theorem c554:funB Tryz.prog num Tryz.f25 A_xref24_stronger = true:=by kernel_rfl
theorem c555:funB Tryz.prog num Tryz.f26 A_xref24_folds = true:=by kernel_rfl
theorem c556:funB Tryz.prog num Tryz.f27 A_xref24_target = true:=by kernel_rfl
theorem c557:funB Tryz.prog num Tryz.f28 A_xref24_pair = true:=by kernel_rfl
theorem c558:funB Tryz.prog num Tryz.f57 A_xref24_cut = true:=by kernel_rfl
theorem c559:funB Tryz.prog num Tryz.f58 A_xref24_reach = true:=by kernel_rfl
theorem c560:funB Tryz.prog num Tryz.f61 A_xref24_swap = true:=by kernel_rfl
theorem c561:funB Tryz.prog num Tryz.f86 A_xref24_touches = true:=by kernel_rfl
theorem c562:funB Tryz.prog num Tryz.f106 A_xref24_sets = true:=by kernel_rfl
def Good (r:Nat × Nat × AFun):Prop:=num r.1 = r.2.1∧∃ fn,Tryz.prog.funcs[r.2.1]? = some fn∧funB Tryz.prog num fn r.2.2 = true
theorem good:∀ r∈tab,Good r:=by
 intro r hr
 unfold tab at hr
 rcases List.mem_cons.1 hr with rfl | hr
 ·exact ⟨by kernel_rfl,_,Tryz.func15,c10⟩
 rcases List.mem_cons.1 hr with rfl | hr
 ·exact ⟨by kernel_rfl,_,Tryz.func14,c86⟩
 rcases List.mem_cons.1 hr with rfl | hr
 ·exact ⟨by kernel_rfl,_,Tryz.func20,c87⟩
 rcases List.mem_cons.1 hr with rfl | hr
 ·exact ⟨by kernel_rfl,_,Tryz.func31,c97⟩
 rcases List.mem_cons.1 hr with rfl | hr
 ·exact ⟨by kernel_rfl,_,Tryz.func35,c98⟩
 rcases List.mem_cons.1 hr with rfl | hr
 ·exact ⟨by kernel_rfl,_,Tryz.func36,c99⟩
 rcases List.mem_cons.1 hr with rfl | hr
 ·exact ⟨by kernel_rfl,_,Tryz.func37,c100⟩
 rcases List.mem_cons.1 hr with rfl | hr
 ·exact ⟨by kernel_rfl,_,Tryz.func63,c107⟩
 rcases List.mem_cons.1 hr with rfl | hr
 ·exact ⟨by kernel_rfl,_,Tryz.func64,c108⟩
 rcases List.mem_cons.1 hr with rfl | hr
 ·exact ⟨by kernel_rfl,_,Tryz.func67,c109⟩
 rcases List.mem_cons.1 hr with rfl | hr
 ·exact ⟨by kernel_rfl,_,Tryz.func68,c110⟩
 rcases List.mem_cons.1 hr with rfl | hr
 ·exact ⟨by kernel_rfl,_,Tryz.func29,c111⟩
 rcases List.mem_cons.1 hr with rfl | hr
 ·exact ⟨by kernel_rfl,_,Tryz.func59,c115⟩
 rcases List.mem_cons.1 hr with rfl | hr
 ·exact ⟨by kernel_rfl,_,Tryz.func87,c123⟩
 rcases List.mem_cons.1 hr with rfl | hr
 ·exact ⟨by kernel_rfl,_,Tryz.func88,c124⟩
 rcases List.mem_cons.1 hr with rfl | hr
 ·exact ⟨by kernel_rfl,_,Tryz.func100,c125⟩
 rcases List.mem_cons.1 hr with rfl | hr
 ·exact ⟨by kernel_rfl,_,Tryz.func60,c126⟩
 rcases List.mem_cons.1 hr with rfl | hr
 ·exact ⟨by kernel_rfl,_,Tryz.func62,c127⟩
 rcases List.mem_cons.1 hr with rfl | hr
 ·exact ⟨by kernel_rfl,_,Tryz.func85,c128⟩
 rcases List.mem_cons.1 hr with rfl | hr
 ·exact ⟨by kernel_rfl,_,Tryz.func34,c132⟩
 rcases List.mem_cons.1 hr with rfl | hr
 ·exact ⟨by kernel_rfl,_,Tryz.func112,c266⟩
 rcases List.mem_cons.1 hr with rfl | hr
 ·exact ⟨by kernel_rfl,_,Tryz.func21,c280⟩
 rcases List.mem_cons.1 hr with rfl | hr
 ·exact ⟨by kernel_rfl,_,Tryz.func38,c282⟩
 rcases List.mem_cons.1 hr with rfl | hr
 ·exact ⟨by kernel_rfl,_,Tryz.func7,c287⟩
 rcases List.mem_cons.1 hr with rfl | hr
 ·exact ⟨by kernel_rfl,_,Tryz.func9,c288⟩
 rcases List.mem_cons.1 hr with rfl | hr
 ·exact ⟨by kernel_rfl,_,Tryz.func6,c289⟩
 rcases List.mem_cons.1 hr with rfl | hr
 ·exact ⟨by kernel_rfl,_,Tryz.func18,c290⟩
 rcases List.mem_cons.1 hr with rfl | hr
 ·exact ⟨by kernel_rfl,_,Tryz.func12,c291⟩
 rcases List.mem_cons.1 hr with rfl | hr
 ·exact ⟨by kernel_rfl,_,Tryz.func17,c296⟩
 rcases List.mem_cons.1 hr with rfl | hr
 ·exact ⟨by kernel_rfl,_,Tryz.func39,c301⟩
 rcases List.mem_cons.1 hr with rfl | hr
 ·exact ⟨by kernel_rfl,_,Tryz.func40,c302⟩
 rcases List.mem_cons.1 hr with rfl | hr
 ·exact ⟨by kernel_rfl,_,Tryz.func69,c303⟩
 rcases List.mem_cons.1 hr with rfl | hr
 ·exact ⟨by kernel_rfl,_,Tryz.func70,c304⟩
 rcases List.mem_cons.1 hr with rfl | hr
 ·exact ⟨by kernel_rfl,_,Tryz.func71,c305⟩
 rcases List.mem_cons.1 hr with rfl | hr
 ·exact ⟨by kernel_rfl,_,Tryz.func72,c306⟩
 rcases List.mem_cons.1 hr with rfl | hr
 ·exact ⟨by kernel_rfl,_,Tryz.func74,c307⟩
 rcases List.mem_cons.1 hr with rfl | hr
 ·exact ⟨by kernel_rfl,_,Tryz.func75,c308⟩
 rcases List.mem_cons.1 hr with rfl | hr
 ·exact ⟨by kernel_rfl,_,Tryz.func22,c309⟩
 rcases List.mem_cons.1 hr with rfl | hr
 ·exact ⟨by kernel_rfl,_,Tryz.func30,c310⟩
 rcases List.mem_cons.1 hr with rfl | hr
 ·exact ⟨by kernel_rfl,_,Tryz.func101,c330⟩
 rcases List.mem_cons.1 hr with rfl | hr
 ·exact ⟨by kernel_rfl,_,Tryz.func103,c331⟩
 rcases List.mem_cons.1 hr with rfl | hr
 ·exact ⟨by kernel_rfl,_,Tryz.func41,c332⟩
 rcases List.mem_cons.1 hr with rfl | hr
 ·exact ⟨by kernel_rfl,_,Tryz.func42,c333⟩
 rcases List.mem_cons.1 hr with rfl | hr
 ·exact ⟨by kernel_rfl,_,Tryz.func43,c334⟩
 rcases List.mem_cons.1 hr with rfl | hr
 ·exact ⟨by kernel_rfl,_,Tryz.func44,c335⟩
 rcases List.mem_cons.1 hr with rfl | hr
 ·exact ⟨by kernel_rfl,_,Tryz.func45,c336⟩
 rcases List.mem_cons.1 hr with rfl | hr
 ·exact ⟨by kernel_rfl,_,Tryz.func46,c337⟩
 rcases List.mem_cons.1 hr with rfl | hr
 ·exact ⟨by kernel_rfl,_,Tryz.func47,c338⟩
 rcases List.mem_cons.1 hr with rfl | hr
 ·exact ⟨by kernel_rfl,_,Tryz.func48,c339⟩
 rcases List.mem_cons.1 hr with rfl | hr
 ·exact ⟨by kernel_rfl,_,Tryz.func49,c340⟩
 rcases List.mem_cons.1 hr with rfl | hr
 ·exact ⟨by kernel_rfl,_,Tryz.func50,c341⟩
 rcases List.mem_cons.1 hr with rfl | hr
 ·exact ⟨by kernel_rfl,_,Tryz.func51,c342⟩
 rcases List.mem_cons.1 hr with rfl | hr
 ·exact ⟨by kernel_rfl,_,Tryz.func52,c343⟩
 rcases List.mem_cons.1 hr with rfl | hr
 ·exact ⟨by kernel_rfl,_,Tryz.func53,c344⟩
 rcases List.mem_cons.1 hr with rfl | hr
 ·exact ⟨by kernel_rfl,_,Tryz.func54,c345⟩
 rcases List.mem_cons.1 hr with rfl | hr
 ·exact ⟨by kernel_rfl,_,Tryz.func55,c346⟩
 rcases List.mem_cons.1 hr with rfl | hr
 ·exact ⟨by kernel_rfl,_,Tryz.func56,c347⟩
 rcases List.mem_cons.1 hr with rfl | hr
 ·exact ⟨by kernel_rfl,_,Tryz.func76,c351⟩
 rcases List.mem_cons.1 hr with rfl | hr
 ·exact ⟨by kernel_rfl,_,Tryz.func77,c352⟩
 rcases List.mem_cons.1 hr with rfl | hr
 ·exact ⟨by kernel_rfl,_,Tryz.func78,c353⟩
 rcases List.mem_cons.1 hr with rfl | hr
 ·exact ⟨by kernel_rfl,_,Tryz.func79,c354⟩
 rcases List.mem_cons.1 hr with rfl | hr
 ·exact ⟨by kernel_rfl,_,Tryz.func80,c355⟩
 rcases List.mem_cons.1 hr with rfl | hr
 ·exact ⟨by kernel_rfl,_,Tryz.func81,c356⟩
 rcases List.mem_cons.1 hr with rfl | hr
 ·exact ⟨by kernel_rfl,_,Tryz.func83,c357⟩
 rcases List.mem_cons.1 hr with rfl | hr
 ·exact ⟨by kernel_rfl,_,Tryz.func84,c358⟩
 rcases List.mem_cons.1 hr with rfl | hr
 ·exact ⟨by kernel_rfl,_,Tryz.func95,c359⟩
 rcases List.mem_cons.1 hr with rfl | hr
 ·exact ⟨by kernel_rfl,_,Tryz.func104,c360⟩
 rcases List.mem_cons.1 hr with rfl | hr
 ·exact ⟨by kernel_rfl,_,Tryz.func105,c361⟩
 rcases List.mem_cons.1 hr with rfl | hr
 ·exact ⟨by kernel_rfl,_,Tryz.func113,c362⟩
 rcases List.mem_cons.1 hr with rfl | hr
 ·exact ⟨by kernel_rfl,_,Tryz.func114,c363⟩
 rcases List.mem_cons.1 hr with rfl | hr
 ·exact ⟨by kernel_rfl,_,Tryz.func115,c364⟩
 rcases List.mem_cons.1 hr with rfl | hr
 ·exact ⟨by kernel_rfl,_,Tryz.func116,c365⟩
 rcases List.mem_cons.1 hr with rfl | hr
 ·exact ⟨by kernel_rfl,_,Tryz.func117,c366⟩
 rcases List.mem_cons.1 hr with rfl | hr
 ·exact ⟨by kernel_rfl,_,Tryz.func118,c367⟩
 rcases List.mem_cons.1 hr with rfl | hr
 ·exact ⟨by kernel_rfl,_,Tryz.func119,c368⟩
 rcases List.mem_cons.1 hr with rfl | hr
 ·exact ⟨by kernel_rfl,_,Tryz.func73,c369⟩
 rcases List.mem_cons.1 hr with rfl | hr
 ·exact ⟨by kernel_rfl,_,Tryz.func23,c370⟩
 rcases List.mem_cons.1 hr with rfl | hr
 ·exact ⟨by kernel_rfl,_,Tryz.func32,c371⟩
 rcases List.mem_cons.1 hr with rfl | hr
 ·exact ⟨by kernel_rfl,_,Tryz.func33,c372⟩
 rcases List.mem_cons.1 hr with rfl | hr
 ·exact ⟨by kernel_rfl,_,Tryz.func82,c378⟩
 rcases List.mem_cons.1 hr with rfl | hr
 ·exact ⟨by kernel_rfl,_,Tryz.func102,c419⟩
 rcases List.mem_cons.1 hr with rfl | hr
 ·exact ⟨by kernel_rfl,_,Tryz.func65,c420⟩
 rcases List.mem_cons.1 hr with rfl | hr
 ·exact ⟨by kernel_rfl,_,Tryz.func66,c421⟩
 rcases List.mem_cons.1 hr with rfl | hr
 ·exact ⟨by kernel_rfl,_,Tryz.func89,c424⟩
 rcases List.mem_cons.1 hr with rfl | hr
 ·exact ⟨by kernel_rfl,_,Tryz.func90,c425⟩
 rcases List.mem_cons.1 hr with rfl | hr
 ·exact ⟨by kernel_rfl,_,Tryz.func91,c426⟩
 rcases List.mem_cons.1 hr with rfl | hr
 ·exact ⟨by kernel_rfl,_,Tryz.func92,c427⟩
 rcases List.mem_cons.1 hr with rfl | hr
 ·exact ⟨by kernel_rfl,_,Tryz.func93,c428⟩
 rcases List.mem_cons.1 hr with rfl | hr
 ·exact ⟨by kernel_rfl,_,Tryz.func94,c429⟩
 rcases List.mem_cons.1 hr with rfl | hr
 ·exact ⟨by kernel_rfl,_,Tryz.func96,c430⟩
 rcases List.mem_cons.1 hr with rfl | hr
 ·exact ⟨by kernel_rfl,_,Tryz.func97,c431⟩
 rcases List.mem_cons.1 hr with rfl | hr
 ·exact ⟨by kernel_rfl,_,Tryz.func98,c432⟩
 rcases List.mem_cons.1 hr with rfl | hr
 ·exact ⟨by kernel_rfl,_,Tryz.func99,c433⟩
 rcases List.mem_cons.1 hr with rfl | hr
 ·exact ⟨by kernel_rfl,_,Tryz.func107,c442⟩
 rcases List.mem_cons.1 hr with rfl | hr
 ·exact ⟨by kernel_rfl,_,Tryz.func108,c443⟩
 rcases List.mem_cons.1 hr with rfl | hr
 ·exact ⟨by kernel_rfl,_,Tryz.func109,c444⟩
 rcases List.mem_cons.1 hr with rfl | hr
 ·exact ⟨by kernel_rfl,_,Tryz.func110,c445⟩
 rcases List.mem_cons.1 hr with rfl | hr
 ·exact ⟨by kernel_rfl,_,Tryz.func111,c446⟩
 rcases List.mem_cons.1 hr with rfl | hr
 ·exact ⟨by kernel_rfl,_,Tryz.func120,c450⟩
 rcases List.mem_cons.1 hr with rfl | hr
 ·exact ⟨by kernel_rfl,_,Tryz.func3,c544⟩
 rcases List.mem_cons.1 hr with rfl | hr
 ·exact ⟨by kernel_rfl,_,Tryz.func4,c545⟩
 rcases List.mem_cons.1 hr with rfl | hr
 ·exact ⟨by kernel_rfl,_,Tryz.func5,c546⟩
 rcases List.mem_cons.1 hr with rfl | hr
 ·exact ⟨by kernel_rfl,_,Tryz.func8,c547⟩
 rcases List.mem_cons.1 hr with rfl | hr
 ·exact ⟨by kernel_rfl,_,Tryz.func10,c548⟩
 rcases List.mem_cons.1 hr with rfl | hr
 ·exact ⟨by kernel_rfl,_,Tryz.func11,c549⟩
 rcases List.mem_cons.1 hr with rfl | hr
 ·exact ⟨by kernel_rfl,_,Tryz.func13,c550⟩
 rcases List.mem_cons.1 hr with rfl | hr
 ·exact ⟨by kernel_rfl,_,Tryz.func16,c551⟩
 rcases List.mem_cons.1 hr with rfl | hr
 ·exact ⟨by kernel_rfl,_,Tryz.func19,c552⟩
 rcases List.mem_cons.1 hr with rfl | hr
 ·exact ⟨by kernel_rfl,_,Tryz.func24,c553⟩
 rcases List.mem_cons.1 hr with rfl | hr
 ·exact ⟨by kernel_rfl,_,Tryz.func25,c554⟩
 rcases List.mem_cons.1 hr with rfl | hr
 ·exact ⟨by kernel_rfl,_,Tryz.func26,c555⟩
 rcases List.mem_cons.1 hr with rfl | hr
 ·exact ⟨by kernel_rfl,_,Tryz.func27,c556⟩
 rcases List.mem_cons.1 hr with rfl | hr
 ·exact ⟨by kernel_rfl,_,Tryz.func28,c557⟩
 rcases List.mem_cons.1 hr with rfl | hr
 ·exact ⟨by kernel_rfl,_,Tryz.func57,c558⟩
 rcases List.mem_cons.1 hr with rfl | hr
 ·exact ⟨by kernel_rfl,_,Tryz.func58,c559⟩
 rcases List.mem_cons.1 hr with rfl | hr
 ·exact ⟨by kernel_rfl,_,Tryz.func61,c560⟩
 rcases List.mem_cons.1 hr with rfl | hr
 ·exact ⟨by kernel_rfl,_,Tryz.func86,c561⟩
 rcases List.mem_cons.1 hr with rfl | hr
 ·exact ⟨by kernel_rfl,_,Tryz.func106,c562⟩
 cases hr
theorem table:Table Tryz.prog num funs:=by
 intro f A h
 unfold funs at h
 cases hf:tab.find? (fun r => r.1 == f) with
 | none => rw[hf] at h;cases h
 | some r =>
   rw[hf] at h;cases h
   have h1:=List.find?_some hf
   simp only[beq_iff_eq] at h1
   subst h1
   obtain ⟨h2,h3⟩:=good r (List.mem_of_find?_eq_some hf)
   rw[h2];exact .inl h3
end Go.Proofs.YtacmiicckhaagaaGreat
end
section
set_option linter.unusedVariables false
set_option linter.unusedSimpArgs false
namespace Go.Ab
open Go.RowKit
def ShR (S:List AV→Prop) (n:Nat) (asx:List AV):Prop:=∃ rows:List (List AV),rows.length = n∧asx = rows.flatten∧∀ r∈rows,S r
def ShL (S:TypeId→List AV→Prop):List TypeId→List AV→Prop
 | [],asx => asx = []
 | t :: ts,asx => ∃ a b,asx = a ++ b∧S t a∧ShL S ts b
def Sh (P:Program):Nat→TypeId→List AV→Prop
 | 0,_,_ => False
 | m + 1,t,asx => match P.underlying t with
   | some .bool => ∃ b,asx = [.b b]
   | some (.int k) => ∃ n,asx = [.i k n]∧(Lit.int k n).wf = true
   | some .string => ∃ s,asx = [.s s]∧s.size≤maxLen
   | some (.slice e) => ∃ cs n,asx = [.sl cs n .non]∧n≤maxLen∧ShR (Sh P m e) n cs
   | some (.pointer e) => asx = [.nilp]∨∃ cs,asx = [.ptr cs]∧Sh P m e cs
   | some (.struct fs) => ShL (Sh P m) (fs.toList.map (·.type)) asx
   | some (.array n e) => ShR (Sh P m e) n asx
   | _ => False
def fieldsOk (P:Program):Nat→List Field→Nat→Bool
 | o,[],n => o == n
 | o,f :: fs,n => (f.offset == o) && fieldsOk P (o + P.cellsOf f.type) fs n
def plainB (P:Program):Nat→TypeId→Bool
 | 0,_ => false
 | m + 1,t => match P.underlying t with
   | some .bool | some (.int _) | some .string => true
   | some (.slice e) => plainB P m e
   | some (.pointer e) => plainB P m e
   | some (.struct fs) => fieldsOk P 0 fs.toList (P.cellsOf t) && fs.toList.all (fun f => plainB P m f.type)
   | some (.array n e) => (P.cellsOf t == n * P.cellsOf e) && plainB P m e
   | _ => false
section
variable {H:Type} {enc:TypeId × Value→H} {P:Program} {c:Cx}
theorem add_add' (a:Addr) (m n:Nat):(a.add m).add n = a.add (m + n):=by
 unfold Addr.add
 by_cases hm:m = 0<;>by_cases hn:n = 0<;>simp[hm,hn,Nat.add_assoc]
theorem I_cell (hb:c.base = c.w.heap.size) (hJ:c.J = fun _ => True) {a:Addr} {v:Value} (h:c.w.cell? a = some v):c.I a:=.inl ⟨by rw[hb];exact block_lt_of_cell h,by rw[hJ];trivial⟩
theorem read_rows {S:List AV→Prop} {sz:Nat} {a:Addr} {n:Nat}
  (h:∀ i,i < n→∃ row rs,c.w.cells? 0 (a.add (i * sz)) sz = some row∧S rs∧Reps c false rs row∧∀ v∈row,v.oneCell' = true):
  ∃ cs vs,ShR S n cs∧Reps c false cs vs∧vs.length = n * sz∧(∀ v∈vs,v.oneCell' = true)∧∀ j,j < n * sz→c.w.cell? (a.add j) = vs[j]?:=by
 induction n with
 | zero => exact ⟨[],[],⟨[],rfl,rfl,fun _ h => by cases h⟩,Reps.nil,by simp,(fun v (h:v∈([]:List Value)) => by cases h),fun j hj => by omega⟩
 | succ n ih =>
   obtain ⟨cs,vs,⟨rows,hl,rfl,hS⟩,hR,hlen,h1,hcell⟩:=ih fun i hi => h i (by omega)
   obtain ⟨row,rs,hc,hSr,hRr,h1r⟩:=h n (by omega)
   obtain ⟨_,hrl,hrc⟩:=World.cells?_some hc
   refine ⟨_,vs ++ row,⟨rows ++ [rs],by simp[hl],rfl,?_⟩,?_,?_,?_,?_⟩
   ·intro r hr
    rcases List.mem_append.1 hr with hr | hr
    ·exact hS r hr
    ·rw[List.mem_singleton.1 hr];exact hSr
   ·simp only[List.flatten_append,List.flatten_cons,List.flatten_nil,List.append_nil]
    exact hR.append hRr
   ·rw[List.length_append,hlen,hrl,Nat.succ_mul]
   ·intro v hv
    rcases List.mem_append.1 hv with hv | hv
    ·exact h1 v hv
    ·exact h1r v hv
   ·intro j hj
    rw[Nat.succ_mul] at hj
    by_cases hjn:j < n * sz
    ·rw[List.getElem?_append_left (by omega)];exact hcell j hjn
    ·rw[List.getElem?_append_right (by omega),hlen,←hrc (j - n * sz) (by omega),add_add']
     rw[show n * sz + (j - n * sz) = j by omega]
theorem read_cells (hb:c.base = c.w.heap.size) (hJ:c.J = fun _ => True):∀ (m:Nat) {t:TypeId} {fuel:Nat} {cs:List Value} {x:DataW H × List MemPlace},
  plainB P m t = true→DataW.trod enc P c.w 0 (fun _ => true) true fuel t cs = some x→∃ asx,Sh P m t asx∧Reps c false asx cs∧∀ v∈cs,v.oneCell' = true
 | 0,_,_,_,_,h,_ => by simp[plainB] at h
 | m + 1,t,fuel,cs,x,hp,h => by
   have one:∀ {y:AV} {v:Value},Rep c false y v→v.oneCell' = true→Reps c false [y] [v]∧∀ u∈[v],u.oneCell' = true:=fun hr h1 =>
    ⟨Reps.cons hr Reps.nil,fun u hu => by rw[List.mem_singleton.1 hu];exact h1⟩
   simp only[plainB] at hp
   cases ht:P.underlying t with
   | none => rw[ht] at hp;cases hp
   | some d =>
     rw[ht] at hp
     cases d with
     | bool =>
       obtain ⟨b,rfl,_⟩:=DataW.trod_bool ht h
       exact ⟨[.b b],by simp only[Sh,ht];exact ⟨b,rfl⟩,one (.b b) rfl⟩
     | int k =>
       obtain ⟨n,rfl,_,hw⟩:=DataW.trod_int ht h
       exact ⟨[.i k n],by simp only[Sh,ht];exact ⟨n,rfl,hw⟩,one (.i k n) rfl⟩
     | string =>
       obtain ⟨s,rfl,_,hs⟩:=DataW.trod_string ht h
       exact ⟨[.s s],by simp only[Sh,ht];exact ⟨s,rfl,hs⟩,one (.s s) rfl⟩
     | slice e =>
       rcases DataW.trod_slice ht h with ⟨rfl,_⟩ | ⟨a,len,cap,elems,rest,n,rfl,rfl,_,_,hl,hm,hel,hget,_,_⟩
       ·refine ⟨[.sl [] 0 .non],by simp only[Sh,ht];exact ⟨[],0,rfl,Nat.zero_le _,[],rfl,rfl,fun _ h => by cases h⟩,one ?_ rfl⟩
        exact .sl ⟨0,0,none⟩ [] (Nat.le_refl _) (Nat.zero_le _) (fun h => by cases h) (fun _ _ _ h => by cases h) (fun h => by omega) (fun _ h => by cases h) rfl (fun h => absurd rfl h) (fun j v h => by simp at h) (fun j x v h => by simp at h) (fun _ _ h => by cases h)
       ·obtain ⟨asx,vs,hS,hR,hlen,h1,hcell⟩:=read_rows (c:=c) (S:=Sh P m e) (sz:=P.cellsOf e) (a:=a) (n:=len) fun i hi => by
         have hg:=hget i hi
         cases hc:c.w.cells? 0 (a.add (i * P.cellsOf e)) (P.cellsOf e) with
         | none => rw[hc] at hg;simp at hg;omega
         | some row =>
           rw[hc,Option.bind_some,List.getElem?_eq_getElem (by omega)] at hg
           obtain ⟨rs,h1,h2,h3⟩:=read_cells hb hJ m hp hg
           exact ⟨row,rs,rfl,h1,h2,h3⟩
        have hk:∀ (j:Nat) v,vs[j]? = some v→c.I (a.add j)∧c.w.cell? (a.add j) = some v:=fun j v hv => by
         have hj:j < len * P.cellsOf e:=by rw[←hlen];exact (List.getElem?_eq_some_iff.1 hv).1
         have:=(hcell j hj).trans hv
         exact ⟨I_cell hb hJ this,this⟩
        refine ⟨[.sl asx len .non],by simp only[Sh,ht];exact ⟨asx,len,rfl,by omega,hS⟩,one ?_ rfl⟩
        exact .sl a vs hl hm (fun h => by cases h) (fun _ _ _ h => by cases h) (fun _ => rfl) h1 hR.1 (fun _ => rfl) hk (fun j x v hx hv => hR.2 j x v hx hv) (fun _ _ h => by cases h)
     | pointer e =>
       rcases DataW.trod_pointer ht h with ⟨rfl,_⟩ | ⟨a,cs',y,n,rfl,rfl,_,hc,hd⟩
       ·exact ⟨[.nilp],by simp only[Sh,ht];exact .inl trivial,one .nilp rfl⟩
       ·obtain ⟨rs,h1,h2,h3⟩:=read_cells hb hJ m hp hd
        obtain ⟨_,hl,hcell⟩:=World.cells?_some hc
        have hk:∀ (j:Nat) v,cs'[j]? = some v→c.I (a.add j)∧c.w.cell? (a.add j) = some v:=fun j v hv => by
         have hj:j < P.cellsOf e:=by rw[←hl];exact (List.getElem?_eq_some_iff.1 hv).1
         have:=(hcell j hj).trans hv
         exact ⟨I_cell hb hJ this,this⟩
        exact ⟨[.ptr rs],by simp only[Sh,ht];exact .inr ⟨rs,rfl,h1⟩,one (.ptr a cs' h3 h2.1 hk (fun j x v hx hv => h2.2 j x v hx hv)) rfl⟩
     | struct fs =>
       simp only[Bool.and_eq_true,List.all_eq_true] at hp
       obtain ⟨xs,n,rfl,_,hcl,hxl,hget⟩:=DataW.trod_struct ht h
       have key:∀ (l:List Field) (o:Nat) (i:Nat),fieldsOk P o l (P.cellsOf t) = true→o≤cs.length→(∀ f∈l,plainB P m f.type = true)→(∀ j f,l[j]? = some f→DataW.trod enc P c.w 0 (fun _ => true) true n f.type ((cs.drop f.offset).take (P.cellsOf f.type)) = xs[i + j]?)→i + l.length = xs.length →
         ∃ asx,ShL (Sh P m) (l.map (·.type)) asx∧Reps c false asx (cs.drop o)∧∀ v∈cs.drop o,v.oneCell' = true:=by
        intro l
        induction l with
        | nil =>
          intro o i hf ho _ _ _
          simp only[fieldsOk,beq_iff_eq] at hf
          have:cs.drop o = []:=List.drop_eq_nil_of_le (by omega)
          rw[this]
          exact ⟨[],rfl,Reps.nil,fun _ h => by cases h⟩
        | cons f l ih =>
          intro o i hf ho hpl hg hlen
          simp only[fieldsOk,Bool.and_eq_true,beq_iff_eq] at hf
          obtain ⟨hfo,hf⟩:=hf
          have hg0:=hg 0 f rfl
          simp only[List.length_cons] at hlen
          rw[List.getElem?_eq_getElem (by omega),hfo] at hg0
          obtain ⟨rs,h1,h2,h3⟩:=read_cells hb hJ m (hpl f (List.mem_cons_self ..)) hg0
          have mono:∀ (l:List Field) (o:Nat),fieldsOk P o l (P.cellsOf t) = true→o≤P.cellsOf t:=by
           intro l
           induction l with
           | nil => intro o h;simp only[fieldsOk,beq_iff_eq] at h;omega
           | cons f l ih => intro o h;simp only[fieldsOk,Bool.and_eq_true] at h;have:=ih _ h.2;omega
          have ho2:=mono _ _ hf
          obtain ⟨asx,h4,h5,h6⟩:=ih (o + P.cellsOf f.type) (i + 1) hf (by omega) (fun g hg => hpl g (List.mem_cons_of_mem _ hg)) (fun j g hj => by
           have:=hg (j + 1) g (by simpa using hj)
           rwa [show i + (j + 1) = i + 1 + j by omega] at this) (by omega)
          have hsplit:cs.drop o = (cs.drop o).take (P.cellsOf f.type) ++ cs.drop (o + P.cellsOf f.type):=by
           rw[←List.drop_drop,List.take_append_drop]
          rw[hsplit]
          refine ⟨rs ++ asx,⟨rs,asx,rfl,h1,h4⟩,h2.append h5,fun v hv => ?_⟩
          rcases List.mem_append.1 hv with hv | hv
          ·exact h3 v hv
          ·exact h6 v hv
       obtain ⟨asx,h1,h2,h3⟩:=key fs.toList 0 0 hp.1 (Nat.zero_le _) hp.2 (fun j f hj => by
        have:=hget j f (by simpa using hj)
        rwa [show 0 + j = j by omega]) (by simp[hxl])
       exact ⟨asx,by simp only[Sh,ht];exact h1,by simpa using h2,by simpa using h3⟩
     | array n e =>
       simp only[Bool.and_eq_true,beq_iff_eq] at hp
       obtain ⟨xs,q,rfl,_,hcl,hxl,hget⟩:=DataW.trod_array ht h
       have key:∀ i,i≤n→∃ asx,ShR (Sh P m e) i asx∧Reps c false asx (cs.take (i * P.cellsOf e))∧∀ v∈cs.take (i * P.cellsOf e),v.oneCell' = true:=by
        intro i
        induction i with
        | zero => intro _;exact ⟨[],⟨[],rfl,rfl,fun _ h => by cases h⟩,by simpa using Reps.nil,by simp⟩
        | succ i ih =>
          intro hi
          obtain ⟨asx,⟨rows,hl,rfl,hS⟩,h2,h3⟩:=ih (by omega)
          have hg:=hget i (by omega)
          rw[List.getElem?_eq_getElem (by omega)] at hg
          obtain ⟨rs,h4,h5,h6⟩:=read_cells hb hJ m hp.2 hg
          have hsplit:cs.take ((i + 1) * P.cellsOf e) = cs.take (i * P.cellsOf e) ++ (cs.drop (i * P.cellsOf e)).take (P.cellsOf e):=by
           rw[Nat.succ_mul,List.take_add]
          rw[hsplit]
          refine ⟨_,⟨rows ++ [rs],by simp[hl],rfl,fun r hr => ?_⟩,?_,fun v hv => ?_⟩
          ·rcases List.mem_append.1 hr with hr | hr
           ·exact hS r hr
           ·rw[List.mem_singleton.1 hr];exact h4
          ·simp only[List.flatten_append,List.flatten_cons,List.flatten_nil,List.append_nil]
           exact h2.append h5
          ·rcases List.mem_append.1 hv with hv | hv
           ·exact h3 v hv
           ·exact h6 v hv
       obtain ⟨asx,h1,h2,h3⟩:=key n (Nat.le_refl _)
       have hall:cs.take (n * P.cellsOf e) = cs:=List.take_of_length_le (by omega)
       rw[hall] at h2 h3
       exact ⟨asx,by simp only[Sh,ht];exact h1,h2,h3⟩
     | _ => cases hp
theorem read_one (hb:c.base = c.w.heap.size) (hJ:c.J = fun _ => True) (m:Nat) {t:TypeId} {v:Value} {d:DataW H} {ps:List MemPlace} (hp:plainB P m t = true) (hv:v.cells = #[v]) (h:DataW.Trod enc P c.w 0 (fun _ => true) true t v d ps):
  ∃ x,Sh P m t [x]∧Rep c true x v:=by
 obtain ⟨fuel,hf⟩:=h
 rw[hv] at hf
 obtain ⟨asx,h1,h2,_⟩:=read_cells hb hJ m hp hf
 have hl:asx.length = 1:=by simpa using h2.1
 match asx,hl with
 | [x],_ => exact ⟨x,h1,(h2.2 0 x v rfl rfl).up⟩
end
end Go.Ab
end
section
namespace Go.Ab
def CLe (c d:CS):Prop:=∀ f asx g r,c f asx g = some r→d f asx g = some r
theorem opE_mono {c d:CS} (h:CLe c d) {al:Nat→Bool} {lo id:Nat} {op:AOp} {e:Env} {g:G} {r:AV × G} (hr:opE c al lo id op e g = some r):opE d al lo id op e g = some r:=by
 cases op with
 | call m f args =>
   simp only[opE,vCall] at hr ⊢
   split at hr
   ·cases m with
    | raw => exact h _ _ _ _ hr
    | see =>
      simp only at hr ⊢
      obtain ⟨v,g2⟩:=r
      obtain ⟨g',hc,rfl,hk⟩:=seeR_inv hr
      rw[h _ _ _ _ hc]
      exact seeR_some hk
    | pure =>
      simp only at hr ⊢
      split at hr
      ·cases hr
      ·split at hr
       ·cases hr
       ·rename_i hc
        rw[h _ _ _ _ hc]
        exact hr
    | lock =>
      simp only at hr ⊢
      split at hr
      ·cases hr
      ·split at hr
       ·cases hr
       ·rename_i hc
        rw[h _ _ _ _ hc]
        exact hr
    | thaw =>
      simp only at hr ⊢
      split at hr
      ·cases hr
      ·split at hr
       ·rename_i hc
        rw[h _ _ _ _ hc]
        exact hr
       ·cases hr
    | melt =>
      simp only at hr ⊢
      split at hr
      ·cases hr
      ·split at hr
       ·rename_i hc
        rw[h _ _ _ _ hc]
        exact hr
       ·cases hr
   ·cases hr
 | _ => exact hr
theorem regE_mono {c d:CS} (h:CLe c d) {draw:Bool} {base:Nat}:∀ {os:List AOper} {j:Nat} {e:Env} {g:G} {r},regE c draw base j os e g = some r→regE d draw base j os e g = some r
 | [],_,_,_,_,hr => hr
 | o :: os,j,e,g,r,hr => by
   simp only[regE] at hr ⊢
   split
   ·rename_i hw
    simp only[hw,if_true] at hr
    split at hr
    ·rename_i ho
     rw[opE_mono h ho]
     exact regE_mono h hr
    ·cases hr
   ·rename_i hw
    simp only[hw,Bool.false_eq_true,if_false] at hr
    exact regE_mono h hr
theorem iter_mono {f f':Env→G→Option (Out × Env × G)} (h:∀ e g r,f e g = some r→f' e g = some r):∀ {k k':Nat} {e g r},k≤k'→iter f k e g = some r→iter f' k' e g = some r
 | 0,_,_,_,_,_,hr => by simp[iter] at hr
 | k + 1,k',e,g,r,hk,hr => by
   obtain ⟨k',rfl⟩:∃ j,k' = j + 1:=⟨k' - 1,by omega⟩
   simp only[iter] at hr ⊢
   split at hr
   ·rename_i hf
    rw[h _ _ _ hf]
    exact iter_mono h (by omega) hr
   ·rename_i hn
    cases hf:f e g with
    | none => rw[hf] at hr;cases hr
    | some q =>
      rw[hf] at hr
      obtain rfl:q = r:=Option.some.inj hr
      obtain ⟨o,e',g'⟩:=q
      cases o with
      | nrm => exact absurd hf (hn _ _)
      | ext n => rw[h _ _ _ hf]
      | ret => rw[h _ _ _ hf]
theorem codeE_mono {c d:CS} (h:CLe c d) {k k':Nat} (hk:k≤k'):∀ {x:ACode} {e:Env} {g:G} {r},codeE c k x e g = some r→codeE d k' x e g = some r:=by
 intro x
 induction x with
 | skip => intro e g r hr;exact hr
 | reg draw ops =>
   intro e g r hr
   simp only[codeE] at hr ⊢
   split at hr
   ·rename_i ho
    rw[regE_mono h ho]
    exact hr
   ·cases hr
 | seq a b iha ihb =>
   intro e g r hr
   simp only[codeE] at hr ⊢
   split at hr
   ·rename_i ho
    rw[iha ho]
    exact ihb hr
   ·rename_i hn
    cases hf:codeE c k a e g with
    | none => rw[hf] at hr;cases hr
    | some q =>
      rw[hf] at hr
      obtain rfl:q = r:=Option.some.inj hr
      obtain ⟨o,e',g'⟩:=q
      cases o with
      | nrm => exact absurd hf (hn _ _)
      | ext n => rw[iha hf]
      | ret => rw[iha hf]
 | cond cc t f iht ihf =>
   intro e g r hr
   simp only[codeE] at hr ⊢
   split at hr
   ·split
    ·rename_i hx
     simp only[hx,if_true] at hr
     exact iht hr
    ·rename_i hx
     simp only[hx,Bool.false_eq_true,if_false] at hr
     exact ihf hr
   ·cases hr
 | lck t cc ih =>
   intro e g r hr
   simp only[codeE] at hr ⊢
   exact ih hr
 | lckS t cc ih =>
   intro e g r hr
   simp only[codeE] at hr ⊢
   exact ih hr
 | imm t cc ih =>
   intro e g r hr
   simp only[codeE] at hr ⊢
   cases hf:frz g.hp depth (e t) with
   | none => rw[hf] at hr;cases hr
   | some v => rw[hf] at hr;exact ih hr
 | tmp cc ih =>
   intro e g r hr
   simp only[codeE] at hr ⊢
   cases hf:codeE c k cc e ⟨lock g.hp (List.range g.nx),g.nx⟩ with
   | none => rw[hf] at hr;cases hr
   | some q => rw[hf] at hr;rw[ih hf];exact hr
 | scp cc ih =>
   intro e g r hr
   simp only[codeE] at hr ⊢
   exact ih hr
 | lab =>
   intro e g r hr
   simp only[codeE] at hr ⊢
   exact hr
 | blk id cc ih =>
   intro e g r hr
   simp only[codeE] at hr ⊢
   split at hr
   ·rename_i hf
    rw[ih hf]
    exact hr
   ·rename_i hn
    cases hf:codeE c k cc e g with
    | none => rw[hf] at hr;cases hr
    | some q =>
      rw[hf] at hr
      obtain rfl:q = r:=Option.some.inj hr
      obtain ⟨o,e',g'⟩:=q
      cases o with
      | nrm => rw[ih hf]
      | ext n => exact absurd hf (hn _ _ _)
      | ret => rw[ih hf]
 | loop cc ih =>
   intro e g r hr
   simp only[codeE] at hr ⊢
   exact iter_mono (fun _ _ _ => ih) hk hr
 | ext id => intro e g r hr;exact hr
 | ret => intro e g r hr;exact hr
 | prim n h => intro e g r hr;exact hr
theorem callE_mono (F:Funs):∀ {k k':Nat},k≤k'→CLe (callE F k) (callE F k')
 | 0,_,_,_,_,_,_,hr => by simp[callE] at hr
 | k + 1,k',hk,f,asx,g,r,hr => by
   obtain ⟨k',rfl⟩:∃ j,k' = j + 1:=⟨k' - 1,by omega⟩
   simp only[callE] at hr ⊢
   split at hr
   ·cases hr
   ·rename_i fn hF
    cases har:arB fn asx with
    | false => rw[har] at hr;cases hr
    | true =>
    rw[har] at hr
    simp only at hr ⊢
    have hm:=fun {x} => codeE_mono (callE_mono F (show k≤k' by omega)) (show k≤k' by omega) (x:=fn.body) (e:=argEnv asx) (g:=g) (r:=x)
    split at hr
    ·rename_i hc
     rw[hm hc]
     exact hr
    ·rename_i hc
     rw[hm hc]
     exact hr
    ·cases hr
open Classical in
noncomputable def lim {α:Type} (f:Nat→Option α):Option α:=
 if h:∃ r k,f k = some r then some (Classical.choose h) else none
theorem lim_some {α:Type} {f:Nat→Option α} (hm:∀ k k' r,k≤k'→f k = some r→f k' = some r) {r:α}:lim f = some r↔∃ k,f k = some r:=by
 unfold lim
 constructor
 ·intro h
  split at h
  ·rename_i hx
   have:=Classical.choose_spec hx
   rwa [Option.some.inj h] at this
  ·cases h
 ·rintro ⟨k,hk⟩
  rw[dif_pos ⟨r,k,hk⟩]
  obtain ⟨k',hk'⟩:=Classical.choose_spec (⟨r,k,hk⟩:∃ r k,f k = some r)
  have h1:=hm k (max k k') _ (by omega) hk
  have h2:=hm k' (max k k') _ (by omega) hk'
  rw[h1] at h2
  exact congrArg some (Option.some.inj h2).symm
theorem lim_ext {α:Type} {a b:Option α} (h:∀ r,a = some r↔b = some r):a = b:=by
 cases a with
 | none =>
   cases b with
   | none => rfl
   | some r => exact (((h r).2 rfl).symm ▸ rfl:none = some r)
 | some r => exact ((h r).1 rfl).symm
variable (F:Funs)
noncomputable def callS:CS:=fun f asx g => lim fun k => callE F k f asx g
noncomputable def codeS (x:ACode) (e:Env) (g:G):Option (Out × Env × G):=lim fun k => codeE (callE F k) k x e g
theorem callS_some {f asx g r}:callS F f asx g = some r↔∃ k,callE F k f asx g = some r:=
 lim_some fun _ _ _ hk h => callE_mono F hk _ _ _ _ h
theorem codeS_some {x e g r}:codeS F x e g = some r↔∃ k,codeE (callE F k) k x e g = some r:=
 lim_some fun _ _ _ hk h => codeE_mono (callE_mono F hk) hk h
theorem callE_le (k:Nat):CLe (callE F k) (callS F):=fun _ _ _ _ h => (callS_some F).2 ⟨k,h⟩
theorem opE_lim {al lo id op e g r}:opE (callS F) al lo id op e g = some r↔∃ k,opE (callE F k) al lo id op e g = some r:=by
 refine ⟨fun h => ?_,fun ⟨k,h⟩ => opE_mono (callE_le F k) h⟩
 cases op with
 | call m f args =>
   simp only[opE,vCall] at h ⊢
   split at h
   ·cases m with
    | raw => exact (callS_some F).1 h
    | see =>
      simp only at h ⊢
      obtain ⟨v,g2⟩:=r
      obtain ⟨g',hc,rfl,hkp⟩:=seeR_inv h
      obtain ⟨k,hk⟩:=(callS_some F).1 hc
      exact ⟨k,by rw[hk];exact seeR_some hkp⟩
    | pure =>
      simp only at h ⊢
      split at h
      ·cases h
      ·split at h
       ·cases h
       ·rename_i hc
        obtain ⟨k,hk⟩:=(callS_some F).1 hc
        exact ⟨k,by rw[hk];exact h⟩
    | lock =>
      simp only at h ⊢
      split at h
      ·cases h
      ·split at h
       ·cases h
       ·rename_i hc
        obtain ⟨k,hk⟩:=(callS_some F).1 hc
        exact ⟨k,by rw[hk];exact h⟩
    | thaw =>
      simp only at h ⊢
      split at h
      ·cases h
      ·split at h
       ·rename_i hc
        obtain ⟨k,hk⟩:=(callS_some F).1 hc
        exact ⟨k,by rw[hk];exact h⟩
       ·cases h
    | melt =>
      simp only at h ⊢
      split at h
      ·cases h
      ·split at h
       ·rename_i hc
        obtain ⟨k,hk⟩:=(callS_some F).1 hc
        exact ⟨k,by rw[hk];exact h⟩
       ·cases h
   ·cases h
 | _ => exact ⟨0,h⟩
theorem regE_lim {draw base}:∀ {os:List AOper} {j e g r},regE (callS F) draw base j os e g = some r↔∃ k,regE (callE F k) draw base j os e g = some r
 | [],_,_,_,_ => ⟨fun h => ⟨0,h⟩,fun ⟨_,h⟩ => h⟩
 | o :: os,j,e,g,r => by
   refine ⟨fun h => ?_,fun ⟨k,h⟩ => regE_mono (callE_le F k) h⟩
   simp only[regE] at h
   split at h
   ·rename_i hw
    split at h
    ·rename_i ho
     obtain ⟨k1,h1⟩:=(opE_lim F).1 ho
     obtain ⟨k2,h2⟩:=(regE_lim).1 h
     refine ⟨max k1 k2,?_⟩
     simp only[regE]
     rw[if_pos hw,opE_mono (callE_mono F (Nat.le_max_left k1 k2)) h1]
     exact regE_mono (callE_mono F (Nat.le_max_right k1 k2)) h2
    ·cases h
   ·rename_i hw
    obtain ⟨k2,h2⟩:=(regE_lim).1 h
    refine ⟨k2,?_⟩
    simp only[regE]
    rw[if_neg hw]
    exact h2
theorem codeS_skip (e g):codeS F .skip e g = some (.nrm,e,g):=(codeS_some F).2 ⟨0,rfl⟩
theorem codeS_ext (id e g):codeS F (.ext id) e g = some (.ext id,e,g):=(codeS_some F).2 ⟨0,rfl⟩
theorem codeS_ret (e g):codeS F .ret e g = some (.ret,e,g):=(codeS_some F).2 ⟨0,rfl⟩
theorem codeS_reg (draw ops e g):codeS F (.reg draw ops) e g = match regE (callS F) draw g.nx 0 ops e { g with nx:=g.nx + ops.length } with
  | some (e,g) => some (.nrm,e,g)
  | none => none:=by
 refine lim_ext fun r => ?_
 rw[codeS_some]
 constructor
 ·rintro ⟨k,h⟩
  simp only[codeE] at h
  split at h
  ·rename_i ho
   rw[(regE_lim F).2 ⟨k,ho⟩]
   exact h
  ·cases h
 ·intro h
  split at h
  ·rename_i ho
   obtain ⟨k,hk⟩:=(regE_lim F).1 ho
   exact ⟨k,by simp only[codeE];rw[hk];exact h⟩
  ·cases h
theorem codeS_seq (a b e g):codeS F (.seq a b) e g = match codeS F a e g with
  | some (.nrm,e,g) => codeS F b e g
  | r => r:=by
 refine lim_ext fun r => ?_
 rw[codeS_some]
 constructor
 ·rintro ⟨k,h⟩
  simp only[codeE] at h
  split at h
  ·rename_i ho
   rw[(codeS_some F).2 ⟨k,ho⟩]
   exact (codeS_some F).2 ⟨k,h⟩
  ·rename_i hn
   rw[(codeS_some F).2 ⟨k,h⟩]
   obtain ⟨o,e',g'⟩:=r
   cases o with
   | nrm => exact absurd h (hn _ _)
   | ext n => rfl
   | ret => rfl
 ·intro h
  split at h
  ·rename_i ho
   obtain ⟨k1,h1⟩:=(codeS_some F).1 ho
   obtain ⟨k2,h2⟩:=(codeS_some F).1 h
   refine ⟨max k1 k2,?_⟩
   simp only[codeE]
   rw[codeE_mono (callE_mono F (Nat.le_max_left k1 k2)) (Nat.le_max_left k1 k2) h1]
   exact codeE_mono (callE_mono F (Nat.le_max_right k1 k2)) (Nat.le_max_right k1 k2) h2
  ·rename_i hn
   obtain ⟨k1,h1⟩:=(codeS_some F).1 h
   refine ⟨k1,?_⟩
   simp only[codeE]
   rw[h1]
   obtain ⟨o,e',g'⟩:=r
   cases o with
   | nrm => exact absurd h (hn _ _)
   | ext n => rfl
   | ret => rfl
theorem codeS_cond (c t f e g):codeS F (.cond c t f) e g = match c.ev e with
  | .b x => if x then codeS F t e g else codeS F f e g
  | _ => none:=by
 refine lim_ext fun r => ?_
 rw[codeS_some]
 simp only[codeE]
 cases c.ev e with
 | b x =>
   cases x with
   | true => simp only[if_true];exact (codeS_some F).symm
   | false => simp only[Bool.false_eq_true,if_false];exact (codeS_some F).symm
 | _ => simp
theorem codeS_lck (t c e g):codeS F (.lck t c) e g = codeS F c e ⟨lock g.hp (vis g.hp depth (e t)),g.nx⟩:=by
 refine lim_ext fun r => ?_
 rw[codeS_some]
 simp only[codeE]
 exact (codeS_some F).symm
theorem codeS_lckS (t c e g):codeS F (.lckS t c) e g = codeS F c e ⟨lock g.hp (ids1 (e t)),g.nx⟩:=by
 refine lim_ext fun r => ?_
 rw[codeS_some]
 simp only[codeE]
 exact (codeS_some F).symm
theorem codeS_imm (t c e g):codeS F (.imm t c) e g = match frz g.hp depth (e t) with
  | some v => codeS F c (upd e t v) ⟨lock g.hp (vis g.hp depth (e t)),g.nx⟩
  | none => none:=by
 refine lim_ext fun r => ?_
 rw[codeS_some]
 simp only[codeE]
 cases frz g.hp depth (e t) with
 | none => simp
 | some v => exact (codeS_some F).symm
theorem codeS_scp (c e g):codeS F (.scp c) e g = codeS F c e g:=by
 refine lim_ext fun r => ?_
 rw[codeS_some]
 simp only[codeE]
 exact (codeS_some F).symm
theorem codeS_lab (e g):codeS F .lab e g = some (.nrm,e,g):=by
 refine lim_ext fun r => ?_
 rw[codeS_some]
 simp only[codeE]
 exact ⟨fun ⟨_,h⟩ => h,fun h => ⟨0,h⟩⟩
theorem codeS_blk (id c e g):codeS F (.blk id c) e g = match codeS F c e g with
  | some (.ext n,e,g) => some (if n = id then .nrm else .ext n,e,g)
  | r => r:=by
 refine lim_ext fun r => ?_
 rw[codeS_some]
 constructor
 ·rintro ⟨k,h⟩
  simp only[codeE] at h
  split at h
  ·rename_i ho
   rw[(codeS_some F).2 ⟨k,ho⟩]
   exact h
  ·rename_i hn
   rw[(codeS_some F).2 ⟨k,h⟩]
   obtain ⟨o,e',g'⟩:=r
   cases o with
   | nrm => rfl
   | ext n => exact absurd h (hn _ _ _)
   | ret => rfl
 ·intro h
  split at h
  ·rename_i ho
   obtain ⟨k1,h1⟩:=(codeS_some F).1 ho
   exact ⟨k1,by simp only[codeE];rw[h1];exact h⟩
  ·rename_i hn
   obtain ⟨k1,h1⟩:=(codeS_some F).1 h
   refine ⟨k1,?_⟩
   simp only[codeE]
   rw[h1]
   obtain ⟨o,e',g'⟩:=r
   cases o with
   | nrm => rfl
   | ext n => exact absurd h (hn _ _ _)
   | ret => rfl
theorem codeS_loop (c e g):codeS F (.loop c) e g = match codeS F c e g with
  | some (.nrm,e,g) => codeS F (.loop c) e g
  | r => r:=by
 refine lim_ext fun r => ?_
 rw[codeS_some]
 constructor
 ·rintro ⟨k,h⟩
  simp only[codeE] at h
  cases k with
  | zero => simp[iter] at h
  | succ k =>
    simp only[iter] at h
    split at h
    ·rename_i ho
     rw[(codeS_some F).2 ⟨k + 1,ho⟩]
     refine (codeS_some F).2 ⟨k + 1,?_⟩
     simp only[codeE]
     exact iter_mono (fun _ _ _ h => h) (Nat.le_succ k) h
    ·rename_i hn
     rw[(codeS_some F).2 ⟨k + 1,h⟩]
     obtain ⟨o,e',g'⟩:=r
     cases o with
     | nrm => exact absurd h (hn _ _)
     | ext n => rfl
     | ret => rfl
 ·intro h
  split at h
  ·rename_i ho
   obtain ⟨k1,h1⟩:=(codeS_some F).1 ho
   obtain ⟨k2,h2⟩:=(codeS_some F).1 h
   simp only[codeE] at h2
   refine ⟨max k1 k2 + 1,?_⟩
   simp only[codeE,iter]
   rw[codeE_mono (callE_mono F (by omega:k1≤max k1 k2 + 1)) (by omega:k1≤max k1 k2 + 1) h1]
   exact iter_mono (fun _ _ _ h => codeE_mono (callE_mono F (by omega:k2≤max k1 k2 + 1)) (by omega:k2≤max k1 k2 + 1) h) (by omega) h2
  ·rename_i hn
   obtain ⟨k1,h1⟩:=(codeS_some F).1 h
   refine ⟨k1 + 1,?_⟩
   simp only[codeE,iter]
   rw[codeE_mono (callE_mono F (by omega:k1≤k1 + 1)) (by omega:k1≤k1 + 1) h1]
   obtain ⟨o,e',g'⟩:=r
   cases o with
   | nrm => exact absurd h (hn _ _)
   | ext n => rfl
   | ret => rfl
theorem callS_eq (f asx g):callS F f asx g = match F f with
  | none => none
  | some fn => match arB fn asx with
    | false => none
    | true => match codeS F fn.body (argEnv asx) g with
      | some (.nrm,e,g) | some (.ret,e,g) => (resE fn.res e g).map (·,g)
      | _ => none:=by
 refine lim_ext fun r => ?_
 rw[callS_some]
 constructor
 ·rintro ⟨k,h⟩
  cases k with
  | zero => simp[callE] at h
  | succ k =>
    simp only[callE] at h
    split at h
    ·cases h
    ·rename_i fn hF
     rw[hF]
     simp only
     cases har:arB fn asx with
     | false => rw[har] at h;cases h
     | true =>
     rw[har] at h
     simp only at h ⊢
     split at h
     ·rename_i hc
      rw[(codeS_some F).2 ⟨k,hc⟩]
      exact h
     ·rename_i hc
      rw[(codeS_some F).2 ⟨k,hc⟩]
      exact h
     ·cases h
 ·intro h
  split at h
  ·cases h
  ·rename_i fn hF
   cases har:arB fn asx with
   | false => rw[har] at h;cases h
   | true =>
   rw[har] at h
   simp only at h
   split at h
   ·rename_i hc
    obtain ⟨k,hk⟩:=(codeS_some F).1 hc
    exact ⟨k + 1,by simp only[callE,hF,har];rw[hk];exact h⟩
   ·rename_i hc
    obtain ⟨k,hk⟩:=(codeS_some F).1 hc
    exact ⟨k + 1,by simp only[callE,hF,har];rw[hk];exact h⟩
   ·cases h
end Go.Ab
end
section
namespace Go.Ab
theorem upd_same {α:Type} (e:Nat→α) (d:Nat) (v:α):upd e d v d = v:=if_pos rfl
theorem upd_ne {α:Type} (e:Nat→α) {d k:Nat} (v:α) (h:k≠d):upd e d v k = e k:=if_neg h
theorem put_some (e:Env) (d:Nat) (v:AV):put e (some d) v = upd e d v:=rfl
theorem put_none (e:Env) (v:AV):put e none v = e:=rfl
theorem allow_no (base:Nat) (pre:List Nat) (id:Nat):allow false base pre id = true:=rfl
theorem allow_lt {base id:Nat} (pre:List Nat) (h:id < base):allow true base pre id = true:=by simp[allow,h]
theorem allow_pre {base id:Nat} {pre:List Nat} (h:pre.contains (id - base) = true):allow true base pre id = true:=by simp[allow];right;simpa using h
theorem rd_ok {g:G} {al:Nat→Bool} {id:Nat} (h:al id = true):rd g al id = g.hp id:=by simp[rd,h]
section
variable (c:CS) (d:Bool) (b j:Nat) (dst:Option Nat) (os:List AOper) (e:Env)
noncomputable def bindR (r:Option (AV × G)):Option (Env × G):=
 match r with
 | some (v,g) => regE c d b j os (put e dst v) g
 | none => none
noncomputable def selR (w:Bool) (op:AOp) (pre:List Nat) (g:G):Option (Env × G):=
 if w then bindR c d b (j + 1) dst os e (opE c (allow d b pre) b (b + j) op e g) else regE c d b (j + 1) os (put e dst .undef) g
theorem selR_true (op pre g):selR c d b j dst os e true op pre g = bindR c d b (j + 1) dst os e (opE c (allow d b pre) b (b + j) op e g):=rfl
theorem regE_nil (g:G):regE c d b j [] e g = some (e,g):=rfl
theorem regE_cons (op:AOp) (grd:Option (Nat × Bool)) (pre:List Nat) (g:G):
  regE c d b j ({ dst,op,grd,pre } :: os) e g = selR c d b j dst os e (wanted e grd) op pre g:=by
 simp only[regE,selR,bindR]
 rfl
end
section
variable (F:Funs)
noncomputable def thenS (x:ACode) (r:Option (Out × Env × G)):Option (Out × Env × G):=
 match r with
 | some (.nrm,e,g) => codeS F x e g
 | r => r
noncomputable def selS (t f:ACode) (e:Env) (g:G) (v:AV):Option (Out × Env × G):=
 match v with
 | .b c => if c then codeS F t e g else codeS F f e g
 | _ => none
def normS (r:Option (Env × G)):Option (Out × Env × G):=
 match r with
 | some (e,g) => some (.nrm,e,g)
 | none => none
def blkS (id:Nat) (r:Option (Out × Env × G)):Option (Out × Env × G):=
 match r with
 | some (.ext n,e,g) => some (if n = id then .nrm else .ext n,e,g)
 | r => r
theorem cS_reg (draw ops e g):codeS F (.reg draw ops) e g = normS (regE (callS F) draw g.nx 0 ops e ⟨g.hp,g.nx + ops.length⟩):=codeS_reg F draw ops e g
theorem cS_seq (a b e g):codeS F (.seq a b) e g = thenS F b (codeS F a e g):=codeS_seq F a b e g
theorem cS_cond (c t f e g):codeS F (.cond c t f) e g = selS F t f e g (c.ev e):=codeS_cond F c t f e g
theorem cS_blk (id c e g):codeS F (.blk id c) e g = blkS id (codeS F c e g):=codeS_blk F id c e g
theorem cS_loop (c e g):codeS F (.loop c) e g = thenS F (.loop c) (codeS F c e g):=codeS_loop F c e g
end
def wantV (v:AV) (w:Bool):Bool:=match v with | .b x => x == w | _ => false
theorem wanted_none (e:Env):wanted e none = true:=rfl
theorem wanted_some (e:Env) (t:Nat) (w:Bool):wanted e (some (t,w)) = wantV (e t) w:=rfl
theorem wantV_1 (x:Bool):wantV (.b x) true = x:=by cases x<;>rfl
theorem wantV_0 (x:Bool):wantV (.b x) false = !x:=by cases x<;>rfl
theorem wantV_undef (w:Bool):wantV .undef w = false:=rfl
section
variable {c:CS} {al:Nat→Bool} {lo id:Nat} {e:Env} {g:G}
theorem ev_t (n:Nat):Opd.ev e (.t n) = e n:=rfl
theorem ev_c (v:AV):Opd.ev e (.c v) = v:=rfl
theorem o_mv (x:Opd):opE c al lo id (.mv x) e g = some (x.ev e,g):=rfl
theorem o_pick (x y z:Opd):opE c al lo id (.pick x y z) e g = vPick (x.ev e) (y.ev e) (z.ev e) g:=rfl
theorem vPick_t (a b:AV) (g:G):vPick (.b true) a b g = some (a,g):=rfl
theorem vPick_f (a b:AV) (g:G):vPick (.b false) a b g = some (b,g):=rfl
theorem o_new (z:List AV):opE c al lo id (.new z) e g = some (.mp id 0,⟨upd g.hp id (some (.cells z false)),g.nx⟩):=rfl
theorem o_box (x:Opd):opE c al lo id (.box x) e g = vBox id (x.ev e) g:=rfl
theorem vMap_some (v:AV):vMap g (some v) = some (v,g):=rfl
theorem vMapL_some (f) (v:List AV):vMapL f g (some v) = some (f v,g):=rfl
theorem o_build (z:List AV) (ps):opE c al lo id (.build z ps) e g = vMapL .agg g (fill e z ps):=rfl
theorem o_ld (agg) (x:Opd):opE c al lo id (.ld agg x) e g = vLd al agg (x.ev e) g:=rfl
theorem vLd_ptr (agg cs):vLd al agg (.ptr cs) g = vMap g (part cs 0 agg):=rfl
theorem o_st (n) (a x:Opd):opE c al lo id (.st n a x) e g = vSt al n (a.ev e) (x.ev e) g:=rfl
theorem o_nilck (x:Opd):opE c al lo id (.nilck x) e g = vNil (x.ev e) g:=rfl
theorem vNil_ptr (cs):vNil (.ptr cs) g = some (.ptr cs,g):=rfl
theorem vNil_mp (b o):vNil (.mp b o) g = some (.mp b o,g):=rfl
theorem vNil_fn (f a b):vNil (.fn f a b) g = some (.fn f a b,g):=rfl
theorem o_bin (op) (x y:Opd):opE c al lo id (.bin op x y) e g = vMap g (abin op (x.ev e) (y.ev e)):=rfl
theorem o_un (op) (x:Opd):opE c al lo id (.un op x) e g = vMap g (aun op (x.ev e)):=rfl
theorem o_mkfn (f a b):opE c al lo id (.mkfn f a b) e g = some (.fn f (a.map (·.ev e)) (b.map (·.ev e)),g):=rfl
theorem o_fa (off) (x:Opd):opE c al lo id (.fa off x) e g = vFa off (x.ev e) g:=rfl
theorem vFa_mp (off b o):vFa off (.mp b o) g = some (.mp b (o + off),g):=rfl
theorem o_fld (off agg) (x:Opd):opE c al lo id (.fld off agg x) e g = vFld off agg (x.ev e) g:=rfl
theorem vFld_agg (off agg cs):vFld off agg (.agg cs) g = vMap g (part cs off agg):=rfl
theorem o_ia (esz) (x i:Opd):opE c al lo id (.ia esz x i) e g = vIa esz (x.ev e) (i.ev e) g:=rfl
theorem vIa_sl {esz cs t k} {n:Nat} {z:Int} (h0:0≤z) (h:z < n):vIa esz (.sl cs n t) (.i k z) g = some (.ptr (cs.drop (z.toNat * esz)),g):=if_pos ⟨h0,h⟩
theorem vIa_ms {esz b off k} {n:Nat} {z:Int} (h0:0≤z) (h:z < n):vIa esz (.ms b off n) (.i k z) g = some (.mp b (off + z.toNat * esz),g):=if_pos ⟨h0,h⟩
theorem o_iaa (len esz) (x i:Opd):opE c al lo id (.iaa len esz x i) e g = vIaa len esz (x.ev e) (i.ev e) g:=rfl
theorem vIaa_ptr {esz cs k} {len:Nat} {z:Int} (h0:0≤z) (h:z < len):vIaa len esz (.ptr cs) (.i k z) g = some (.ptr (cs.drop (z.toNat * esz)),g):=if_pos ⟨h0,h⟩
theorem vIaa_mp {esz b off k} {len:Nat} {z:Int} (h0:0≤z) (h:z < len):vIaa len esz (.mp b off) (.i k z) g = some (.mp b (off + z.toNat * esz),g):=if_pos ⟨h0,h⟩
theorem o_len (x:Opd):opE c al lo id (.len x) e g = vLen (x.ev e) g:=rfl
theorem vLen_sl (cs n t):vLen (.sl cs n t) g = some (.i .i64 n,g):=rfl
theorem vLen_ms (b o n):vLen (.ms b o n) g = some (.i .i64 n,g):=rfl
theorem o_mx (x y:Opd):opE c al lo id (.mx x y) e g = vMx (x.ev e) (y.ev e) g:=rfl
theorem o_mn (x y:Opd):opE c al lo id (.mn x y) e g = vMn (x.ev e) (y.ev e) g:=rfl
theorem vMx_i (k l a b):vMx (.i k a) (.i l b) g = some (.i k (if b > a then b else a),g):=rfl
theorem vMn_i (k l a b):vMn (.i k a) (.i l b) g = some (.i k (if b < a then b else a),g):=rfl
theorem o_ext (i) (x:Opd):opE c al lo id (.ext i x) e g = vExt i (x.ev e) g:=rfl
theorem vExt_tup (i cs):vExt i (.tup cs) g = vMap g (cs[i]?):=rfl
theorem b_add (k x y):abin .add (.i k x) (.i k y) = some (.i k (k.wrap (x + y))):=by simp[abin,ibin]
theorem b_sub (k x y):abin .sub (.i k x) (.i k y) = some (.i k (k.wrap (x - y))):=by simp[abin,ibin]
theorem b_mul (k x y):abin .mul (.i k x) (.i k y) = some (.i k (k.wrap (x * y))):=by simp[abin,ibin]
theorem b_quo {k x y} (h:y≠0):abin .quo (.i k x) (.i k y) = some (.i k (k.wrap (x.tdiv y))):=by simp[abin,ibin,h]
theorem b_rem {k x y} (h:y≠0):abin .rem (.i k x) (.i k y) = some (.i k (x.tmod y)):=by simp[abin,ibin,h]
theorem b_lss (k x y):abin .lss (.i k x) (.i k y) = some (.b (decide (x < y))):=by simp[abin,ibin]
theorem b_leq (k x y):abin .leq (.i k x) (.i k y) = some (.b (decide (x≤y))):=by simp[abin,ibin]
theorem b_gtr (k x y):abin .gtr (.i k x) (.i k y) = some (.b (decide (x > y))):=by simp[abin,ibin]
theorem b_geq (k x y):abin .geq (.i k x) (.i k y) = some (.b (decide (x ≥ y))):=by simp[abin,ibin]
theorem b_eql (k x y):abin .eql (.i k x) (.i k y) = some (.b (x == y)):=by simp[abin,ibin]
theorem b_neq (k x y):abin .neq (.i k x) (.i k y) = some (.b (x != y)):=by simp[abin,ibin]
end
def selB (x:Bool) (o:Option Blk):Option Blk:=if x then o else none
theorem selB_true (o):selB true o = o:=rfl
theorem rd_S (g:G) (al:Nat→Bool) (id:Nat):rd g al id = selB (al id) (g.hp id):=rfl
section
variable {al:Nat→Bool} {g:G}
def ldS (agg:Option Nat) (off:Nat) (g:G):Option Blk→Option (AV × G)
 | some (.cells cs _) => vMap g (part cs off agg)
 | _ => none
theorem ldS_ok (agg off g cs ro):ldS agg off g (some (.cells cs ro)) = vMap g (part cs off agg):=rfl
theorem vLd_S (agg b off):vLd al agg (.mp b off) g = ldS agg off g (selB (al b) (g.hp b)):=rfl
def stD (n b off len m:Nat) (ones:Bool) (cs vs:List AV) (g:G):Option (AV × G):=
 if len = n∧off + n≤m∧ones = true then some (.undef,⟨upd g.hp b (some (.cells (splice cs off vs) false)),g.nx⟩) else none
theorem stD_ok {n b off len m:Nat} {cs vs g} (h:len = n∧off + n≤m):stD n b off len m true cs vs g = some (.undef,⟨upd g.hp b (some (.cells (splice cs off vs) false)),g.nx⟩):=if_pos ⟨h.1,h.2,rfl⟩
def stS (n b off:Nat) (vs:List AV) (g:G):Option Blk→Option (AV × G)
 | some (.cells cs false) => stD n b off vs.length cs.length (vs.all one) cs vs g
 | _ => none
theorem stS_ok (n b off vs g cs):stS n b off vs g (some (.cells cs false)) = stD n b off vs.length cs.length (vs.all one) cs vs g:=rfl
theorem vSt_S (n b off x):vSt al n (.mp b off) x g = stS n b off (cellsOf x) g (selB (al b) (g.hp b)):=by
 simp only[vSt]
 rw[rd_S]
 cases selB (al b) (g.hp b) with
 | none => rfl
 | some bl =>
   cases bl with
   | cells cs ro => cases ro<;>rfl
   | map es => rfl
   | tok l => rfl
def boxD (id:Nat) (cs:List AV) (g:G) (x:Bool):Option (AV × G):=if x then some (.mp id 0,⟨upd g.hp id (some (.cells cs false)),g.nx⟩) else none
theorem boxD_ok (id cs g):boxD id cs g true = some (.mp id 0,⟨upd g.hp id (some (.cells cs false)),g.nx⟩):=rfl
theorem vBox_S (id v):vBox id v g = boxD id (cellsOf v) g ((cellsOf v).all one):=rfl
def faD (off len:Nat) (cs:List AV) (g:G):Option (AV × G):=if off < len then some (.ptr (cs.drop off),g) else none
theorem faD_ok {off len:Nat} {cs g} (h:off < len):faD off len cs g = some (.ptr (cs.drop off),g):=if_pos h
theorem vFa_S (off cs):vFa off (.ptr cs) g = faD off cs.length cs g:=rfl
def fillD (e:Env) (cs:List AV) (off n len m:Nat) (ones:Bool) (vs:List AV) (ps:List (Nat × Nat × Opd)):Option (List AV):=
 if len = n∧off + n≤m∧ones = true then fill e (splice cs off vs) ps else none
theorem fillD_ok {e cs off n len m vs ps} (h:len = n∧off + n≤m):fillD e cs off n len m true vs ps = fill e (splice cs off vs) ps:=if_pos ⟨h.1,h.2,rfl⟩
theorem fill_S (e:Env) (cs:List AV) (off n x ps):fill e cs ((off,n,x) :: ps) = fillD e cs off n (cellsOf (x.ev e)).length cs.length ((cellsOf (x.ev e)).all one) (cellsOf (x.ev e)) ps:=by
 simp only[fill,fillD]
theorem fill_nil (e cs):fill e cs [] = some cs:=rfl
theorem cellsOf_agg (cs):cellsOf (.agg cs) = cs:=rfl
theorem cellsOf_i (k n):cellsOf (.i k n) = [.i k n]:=rfl
theorem cellsOf_b (x):cellsOf (.b x) = [.b x]:=rfl
theorem cellsOf_s (x):cellsOf (.s x) = [.s x]:=rfl
theorem cellsOf_ptr (x):cellsOf (.ptr x) = [.ptr x]:=rfl
theorem cellsOf_nilp:cellsOf .nilp = [.nilp]:=rfl
theorem cellsOf_sl (a b c):cellsOf (.sl a b c) = [.sl a b c]:=rfl
theorem cellsOf_mp (a b):cellsOf (.mp a b) = [.mp a b]:=rfl
theorem cellsOf_fn (a b c):cellsOf (.fn a b c) = [.fn a b c]:=rfl
theorem one_i (k n):one (.i k n) = true:=rfl
theorem one_b (x):one (.b x) = true:=rfl
theorem one_s (x):one (.s x) = true:=rfl
theorem one_ptr (x):one (.ptr x) = true:=rfl
theorem one_nilp:one .nilp = true:=rfl
theorem one_sl (a b c):one (.sl a b c) = true:=rfl
theorem one_mp (a b):one (.mp a b) = true:=rfl
theorem one_fn (a b c):one (.fn a b c) = true:=rfl
theorem splice_1 (cs off v):splice cs off [v] = cs.set off v:=rfl
theorem splice_2 (a b x y):splice [a,b] 0 [x,y] = [x,y]:=rfl
theorem splice_3 (a b c x y z):splice [a,b,c] 0 [x,y,z] = [x,y,z]:=rfl
theorem part_0 (c cs):part (c :: cs) 0 none = some c:=rfl
theorem part_1 (c d cs):part (c :: d :: cs) 1 none = some d:=rfl
theorem part_2 (a c d cs):part (a :: c :: d :: cs) 2 none = some d:=rfl
def andLe (lo:Nat) (al:Nat→Bool) (i:Nat):Bool:=decide (lo≤i) && al i
theorem o_stL {c:CS} {al:Nat→Bool} {lo id:Nat} {e:Env} {g:G} (n a x):opE c al lo id (.stL n a x) e g = vSt (andLe lo al) n (a.ev e) (x.ev e) g:=rfl
theorem andLe_ok {lo:Nat} {al:Nat→Bool} {i:Nat} (h:lo≤i):andLe lo al i = al i:=by simp[andLe,h]
theorem allow_hd {base k id:Nat} (l:List Nat) (h:id = base + k):allow true base (k :: l) id = true:=by subst h;simp[allow]
theorem allow_h2 {base k k' id:Nat} (l:List Nat) (h:id = base + k):allow true base (k' :: k :: l) id = true:=by subst h;simp[allow]
theorem part_3 (a b c d:AV) (l:List AV):part (a :: b :: c :: d :: l) 3 none = some d:=rfl
theorem part_4 (a b c d e:AV) (l:List AV):part (a :: b :: c :: d :: e :: l) 4 none = some e:=rfl
theorem part_5 (a b c d e f:AV) (l:List AV):part (a :: b :: c :: d :: e :: f :: l) 5 none = some f:=rfl
theorem cellsOf_ms (a b c):cellsOf (.ms a b c) = [.ms a b c]:=rfl
theorem one_ms (a b c):one (.ms a b c) = true:=rfl
theorem drop_0 (l:List AV):l.drop 0 = l:=rfl
theorem g0_nx:g0.nx = 0:=rfl
theorem g0_hp:g0.hp = fun _ => none:=rfl
theorem o_bsl {c:CS} {al:Nat→Bool} {lo id:Nat} {e:Env} {g:G} (imm n z ps):opE c al lo id (.bsl imm n z ps) e g = vBsl id imm n (fill e z ps) g:=rfl
theorem vBsl_t (id n cs) (g:G):vBsl id true n (some cs) g = vMapL (fun cs => .sl cs n .rig) g (frzL (fun _ => none) depth cs):=rfl
theorem vBsl_f (id n cs) (g:G):vBsl id false n (some cs) g = some (.ms id 0 n,⟨upd g.hp id (some (.cells cs false)),g.nx⟩):=rfl
theorem o_app {c:CS} {al:Nat→Bool} {lo id:Nat} {e:Env} {g:G} (esz by' x y):opE c al lo id (.app esz by' x y) e g = vApp al id esz by' (x.ev e) (y.ev e) g:=rfl
def appD (n m esz bytes lc ld:Nat) (r:Option (AV × G)):Option (AV × G):=if (n + m) * bytes≤2 ^ 46∧n + m≤2 ^ 62∧lc = n * esz∧ld = m * esz then r else none
theorem appD_ok {n m esz bytes lc ld r} (h:(n + m) * bytes≤2 ^ 46∧n + m≤2 ^ 62∧lc = n * esz∧ld = m * esz):appD n m esz bytes lc ld r = r:=if_pos h
theorem vApp_rig {id esz bytes cs n ds m t2} (h:m≠0):vApp al id esz bytes (.sl cs n .rig) (.sl ds m t2) g = appD n m esz bytes cs.length ds.length (some (.sl (cs ++ ds) (n + m) (.own id esz),⟨upd g.hp id (some (.tok true)),g.nx⟩)):=by
 simp only[vApp,vSrc,if_neg h];rfl
theorem vApp_rig0 {id esz bytes cs n ds t2}:vApp al id esz bytes (.sl cs n .rig) (.sl ds 0 t2) g = appD n 0 esz bytes cs.length ds.length (some (.sl cs n .rig,g)):=by
 simp only[vApp,vSrc,if_true];rfl
def appK (id esz tk n:Nat) (cs:List AV) (g:G):Option Blk→Option (AV × G)
 | some (.tok true) => some (.sl cs n (.own id esz),⟨upd (upd g.hp tk (some (.tok false))) id (some (.tok true)),g.nx⟩)
 | _ => none
theorem appK_ok (id esz tk n cs g):appK id esz tk n cs g (some (.tok true)) = some (.sl cs n (.own id esz),⟨upd (upd g.hp tk (some (.tok false))) id (some (.tok true)),g.nx⟩):=rfl
theorem vApp_own {id esz bytes cs n tk ds m t2}:vApp al id esz bytes (.sl cs n (.own tk esz)) (.sl ds m t2) g = appD n m esz bytes cs.length ds.length (appK id esz tk (n + m) (cs ++ ds) g (selB (al tk) (g.hp tk))):=by
 simp only[vApp,vSrc,rd_S]
 unfold appD appK
 split
 ·cases selB (al tk) (g.hp tk) with
  | none => rfl
  | some b =>
    cases b with
    | tok x => cases x<;>simp
    | cells _ _ => rfl
    | map _ => rfl
 ·rfl
theorem o_eqn {c:CS} {al:Nat→Bool} {lo id:Nat} {e:Env} {g:G} (neg x y):opE c al lo id (.eqn neg x y) e g = vMap g (negb neg (aeqn (x.ev e) (y.ev e))):=rfl
theorem o_eqb {c:CS} {al:Nat→Bool} {lo id:Nat} {e:Env} {g:G} (neg x y):opE c al lo id (.eqb neg x y) e g = vMap g (negb neg (aeqb (x.ev e) (y.ev e))):=rfl
theorem o_eqa {c:CS} {al:Nat→Bool} {lo id:Nat} {e:Env} {g:G} (neg ks x y):opE c al lo id (.eqa neg ks x y) e g = vMap g (negb neg (aeqa ks (x.ev e) (y.ev e))):=rfl
theorem o_eqs {c:CS} {al:Nat→Bool} {lo id:Nat} {e:Env} {g:G} (neg x):opE c al lo id (.eqs neg x) e g = vMap g (negb neg (aeqs (x.ev e))):=rfl
theorem aeqn_pn (cs):aeqn (.ptr cs) .nilp = some false:=rfl
theorem aeqn_np (cs):aeqn .nilp (.ptr cs) = some false:=rfl
theorem aeqn_mn (a b):aeqn (.mp a b) .nilp = some false:=rfl
theorem aeqn_nn:aeqn .nilp .nilp = some true:=rfl
theorem aeqb_bb (x y):aeqb (.b x) (.b y) = some (x == y):=rfl
theorem negb_t (x):negb true (some x) = some (.b (!x)):=rfl
theorem negb_f (x):negb false (some x) = some (.b x):=rfl
theorem aun_not (x):aun .not (.b x) = some (.b !x):=rfl
end
end Go.Ab
end
section
set_option linter.unusedVariables false
namespace Go.Ab
def lckG (g:G) (v:AV):G:=⟨lock g.hp (vis g.hp depth v),g.nx⟩
theorem lck_hit {g:G} {v:AV} {i:Nat} {cs:List AV} {ro:Bool} (h:g.hp i = some (.cells cs ro)) (hv:ro = false→i∈vis g.hp depth v):(lckG g v).hp i = some (.cells cs true):=by
 show lock _ _ _ = _
 unfold lock
 rw[h]
 cases ro with
 | true => split<;>rfl
 | false => rw[if_pos (by simpa using hv rfl)]
section
variable (F:Funs)
def W (c:ACode) (e:Env) (g:G) (Q:Out→Env→G→Prop):Prop:=∃ o e' g',codeS F c e g = some (o,e',g')∧Q o e' g'
def WR (d:Bool) (b j:Nat) (ops:List AOper) (e:Env) (g:G) (K:Env→G→Prop):Prop:=∃ e' g',regE (callS F) d b j ops e g = some (e',g')∧K e' g'
def thenQ (b:ACode) (Q:Out→Env→G→Prop):Out→Env→G→Prop
 | .nrm,e,g => W F b e g Q
 | o,e,g => Q o e g
def selW (t f:ACode) (e:Env) (g:G) (Q:Out→Env→G→Prop):AV→Prop
 | .b true => W F t e g Q
 | .b false => W F f e g Q
 | _ => False
def blkQ (id:Nat) (Q:Out→Env→G→Prop):Out→Env→G→Prop
 | .ext n,e,g => if n = id then Q .nrm e g else Q (.ext n) e g
 | o,e,g => Q o e g
def nrmQ (Q:Out→Env→G→Prop) (e:Env) (g:G):Prop:=Q .nrm e g
def bindO (d:Bool) (b j:Nat) (dst:Option Nat) (os:List AOper) (e:Env) (K:Env→G→Prop):Option (AV × G)→Prop
 | some (v,g) => WR F d b j os (put e dst v) g K
 | none => False
def selO (d:Bool) (b j:Nat) (dst:Option Nat) (os:List AOper) (e:Env) (op:AOp) (pre:List Nat) (g:G) (K:Env→G→Prop) (w:Bool):Prop:=
 if w then bindO F d b (j + 1) dst os e K (opE (callS F) (allow d b pre) b (b + j) op e g) else WR F d b (j + 1) os (put e dst .undef) g K
end
section
variable {F:Funs}
theorem W_skip {e g Q}:W F .skip e g Q = Q .nrm e g:=by
 unfold W;rw[codeS_skip];apply propext
 exact ⟨fun ⟨o,e',g',h,q⟩ => by cases h;exact q,fun q => ⟨_,_,_,rfl,q⟩⟩
theorem W_ext {id e g Q}:W F (.ext id) e g Q = Q (.ext id) e g:=by
 unfold W;rw[codeS_ext];apply propext
 exact ⟨fun ⟨o,e',g',h,q⟩ => by cases h;exact q,fun q => ⟨_,_,_,rfl,q⟩⟩
theorem W_ret {e g Q}:W F .ret e g Q = Q .ret e g:=by
 unfold W;rw[codeS_ret];apply propext
 exact ⟨fun ⟨o,e',g',h,q⟩ => by cases h;exact q,fun q => ⟨_,_,_,rfl,q⟩⟩
theorem W_seq {a b e g Q}:W F (.seq a b) e g Q = W F a e g (thenQ F b Q):=by
 unfold W;rw[cS_seq];apply propext
 constructor
 ·intro ⟨o,e',g',h,q⟩
  cases hc:codeS F a e g with
  | none => rw[hc] at h;cases h
  | some r =>
    obtain ⟨o1,e1,g1⟩:=r
    rw[hc] at h
    refine ⟨o1,e1,g1,rfl,?_⟩
    cases o1 with
    | nrm => exact ⟨o,e',g',h,q⟩
    | ext n => cases h;exact q
    | ret => cases h;exact q
 ·intro ⟨o,e',g',h,q⟩
  rw[h]
  cases o with
  | nrm => exact q
  | ext n => exact ⟨_,_,_,rfl,q⟩
  | ret => exact ⟨_,_,_,rfl,q⟩
theorem thenQ_nrm {b Q e g}:thenQ F b Q .nrm e g = W F b e g Q:=rfl
theorem thenQ_ext {b Q n e g}:thenQ F b Q (.ext n) e g = Q (.ext n) e g:=rfl
theorem thenQ_ret {b Q e g}:thenQ F b Q .ret e g = Q .ret e g:=rfl
theorem W_cond {c t f e g Q}:W F (.cond c t f) e g Q = selW F t f e g Q (c.ev e):=by
 unfold W;rw[cS_cond];apply propext
 generalize c.ev e = v
 cases v<;>simp only[selS,selW]<;>try (constructor<;>(intro h;first | exact h.elim | (obtain ⟨_,_,_,h,_⟩:=h;cases h)))
 rename_i x
 cases x<;>simp[W]
theorem selW_true {t f e g Q}:selW F t f e g Q (.b true) = W F t e g Q:=rfl
theorem selW_false {t f e g Q}:selW F t f e g Q (.b false) = W F f e g Q:=rfl
theorem W_scp {c e g Q}:W F (.scp c) e g Q = W F c e g Q:=by unfold W;rw[codeS_scp]
theorem W_lab {e g Q}:W F .lab e g Q = Q .nrm e g:=by
 unfold W;rw[codeS_lab];apply propext
 exact ⟨fun ⟨o,e',g',h,q⟩ => by cases h;exact q,fun q => ⟨_,_,_,rfl,q⟩⟩
theorem W_lckS {t c e g Q}:W F (.lckS t c) e g Q = W F c e ⟨lock g.hp (ids1 (e t)),g.nx⟩ Q:=by unfold W;rw[codeS_lckS]
theorem W_lck {t c e g Q}:W F (.lck t c) e g Q = W F c e (lckG g (e t)) Q:=by unfold W;rw[codeS_lck];rfl
theorem W_blk {id c e g Q}:W F (.blk id c) e g Q = W F c e g (blkQ id Q):=by
 unfold W;rw[cS_blk];apply propext
 constructor
 ·intro ⟨o,e',g',h,q⟩
  cases hc:codeS F c e g with
  | none => rw[hc] at h;cases h
  | some r =>
    obtain ⟨o1,e1,g1⟩:=r
    rw[hc] at h
    refine ⟨o1,e1,g1,rfl,?_⟩
    cases o1 with
    | nrm => cases h;exact q
    | ext n =>
      cases h
      show if n = id then _ else _
      split
      ·rename_i hn;rw[if_pos hn] at q;exact q
      ·rename_i hn;rw[if_neg hn] at q;exact q
    | ret => cases h;exact q
 ·intro ⟨o,e',g',h,q⟩
  rw[h]
  cases o with
  | nrm => exact ⟨_,_,_,rfl,q⟩
  | ext n =>
    refine ⟨_,_,_,rfl,?_⟩
    have q:if n = id then Q .nrm e' g' else Q (.ext n) e' g':=q
    split
    ·rename_i hn;rw[if_pos hn] at q;exact q
    ·rename_i hn;rw[if_neg hn] at q;exact q
  | ret => exact ⟨_,_,_,rfl,q⟩
theorem blkQ_nrm {id Q e g}:blkQ id Q .nrm e g = Q .nrm e g:=rfl
theorem blkQ_ret {id Q e g}:blkQ id Q .ret e g = Q .ret e g:=rfl
theorem blkQ_same {id Q e g}:blkQ id Q (.ext id) e g = Q .nrm e g:=if_pos rfl
theorem blkQ_ne {id n Q e g} (h:n≠id):blkQ id Q (.ext n) e g = Q (.ext n) e g:=if_neg h
theorem W_reg {d ops e g Q}:W F (.reg d ops) e g Q = WR F d g.nx 0 ops e ⟨g.hp,g.nx + ops.length⟩ (nrmQ Q):=by
 unfold W WR;rw[cS_reg];apply propext
 constructor
 ·intro ⟨o,e',g',h,q⟩
  cases hc:regE (callS F) d g.nx 0 ops e ⟨g.hp,g.nx + ops.length⟩ with
  | none => rw[hc] at h;cases h
  | some r =>
    rw[hc] at h
    cases h
    exact ⟨_,_,rfl,q⟩
 ·intro ⟨e',g',h,q⟩
  rw[h]
  exact ⟨.nrm,e',g',rfl,q⟩
theorem nrmQ_is {Q e g}:nrmQ Q e g = Q .nrm e g:=rfl
theorem WR_nil {d b j e g K}:WR F d b j [] e g K = K e g:=by
 unfold WR;apply propext
 simp only[regE_nil]
 exact ⟨fun ⟨e',g',h,q⟩ => by cases h;exact q,fun q => ⟨_,_,rfl,q⟩⟩
theorem WR_cons {d b j dst op grd pre os e g K}:WR F d b j ({ dst,op,grd,pre } :: os) e g K = selO F d b j dst os e op pre g K (wanted e grd):=by
 unfold WR;rw[regE_cons]
 generalize wanted e grd = w
 cases w
 ·rfl
 ·rw[selR_true]
  show _ = bindO _ _ _ _ _ _ _ _ _
  cases opE (callS F) (allow d b pre) b (b + j) op e g with
  | none =>
    apply propext
    constructor
    ·intro ⟨_,_,h,_⟩;cases h
    ·intro h;exact False.elim h
  | some r => rfl
theorem selO_true {d b j dst os e op pre g K}:selO F d b j dst os e op pre g K true = bindO F d b (j + 1) dst os e K (opE (callS F) (allow d b pre) b (b + j) op e g):=rfl
theorem selO_false {d b j dst os e op pre g K}:selO F d b j dst os e op pre g K false = WR F d b (j + 1) os (put e dst .undef) g K:=rfl
theorem bindO_some {d b j dst os e K v g}:bindO F d b j dst os e K (some (v,g)) = WR F d b j os (put e dst v) g K:=rfl
theorem W_mono {c e g} {Q Q':Out→Env→G→Prop} (h:W F c e g Q) (hq:∀ o e g,Q o e g→Q' o e g):W F c e g Q':=by
 obtain ⟨o,e',g',h1,h2⟩:=h;exact ⟨o,e',g',h1,hq _ _ _ h2⟩
def loopQ (I:Nat→Env→G→Prop) (m:Nat) (Q:Out→Env→G→Prop):Out→Env→G→Prop
 | .nrm,e,g => ∃ m',m' < m∧I m' e g
 | o,e,g => Q o e g
theorem loopQ_nrm {I m Q e g}:loopQ I m Q .nrm e g = ∃ m',m' < m∧I m' e g:=rfl
theorem loopQ_ext {I m Q n e g}:loopQ I m Q (.ext n) e g = Q (.ext n) e g:=rfl
theorem loopQ_ret {I m Q e g}:loopQ I m Q .ret e g = Q .ret e g:=rfl
theorem W_loop {c e g Q} (I:Nat→Env→G→Prop) (n:Nat) (h0:I n e g) (h:∀ m e g,I m e g→W F c e g (loopQ I m Q)):W F (.loop c) e g Q:=by
 have key:∀ m e g,I m e g→W F (.loop c) e g Q:=by
  intro m
  induction m using Nat.strongRecOn with
  | _ m ih =>
    intro e g hI
    obtain ⟨o,e1,g1,h1,h2⟩:=h m e g hI
    unfold W
    rw[cS_loop,h1]
    cases o with
    | nrm =>
      obtain ⟨m',hm,hI'⟩:=h2
      exact ih m' hm e1 g1 hI'
    | ext n => exact ⟨_,_,_,rfl,h2⟩
    | ret => exact ⟨_,_,_,rfl,h2⟩
 exact key n e g h0
noncomputable def pureS (F:Funs) (f:Nat) (asx:List AV):Option AV:=match callS F f asx g0 with
 | some (v,g) => frz g.hp depth v
 | none => none
noncomputable def vPure (F:Funs) (al:Nat→Bool) (f:AV) (args:List AV) (g:G):Option (AV × G):=vCall (callS F) al 0 .pure f args g
theorem o_pure {al lo id e g} (f:Opd) (asx:List Opd):opE (callS F) al lo id (.call .pure f asx) e g = vPure F al (f.ev e) (asx.map (·.ev e)) g:=rfl
theorem vPure_ok {al:Nat→Bool} {fid:Nat} {fst caps args bs:List AV} {g:G} {v:AV} (h1:frzL (rd g al) depth (fst ++ args ++ caps) = some bs) (h2:pureS F fid bs = some v) (h3:(flat v || ((fst ++ args ++ caps).flatMap (vis (rd g al) depth)).isEmpty) = true):
  vPure F al (.fn fid fst caps) args g = some (v,g):=by
 unfold pureS at h2
 split at h2
 ·rename_i v0 g' hc
  have hc':callS F fid bs ⟨fun _ => none,0⟩ = some (v0,g'):=hc
  unfold vPure vCall
  simp only[h1,hc',h2,h3,if_true]
 ·cases h2
def retQ (rs:List ARes) (v:AV):Out→Env→G→Prop
 | .ext _,_,_ => False
 | _,e,g => (match resE rs e g with | some v0 => frz g.hp depth v0 | none => none) = some v
theorem retQ_nrm {rs v e g}:retQ rs v .nrm e g = ((match resE rs e g with | some v0 => frz g.hp depth v0 | none => none) = some v):=rfl
theorem retQ_ret {rs v e g}:retQ rs v .ret e g = ((match resE rs e g with | some v0 => frz g.hp depth v0 | none => none) = some v):=rfl
theorem pure_of {f:Nat} {fn:AFun} {asx:List AV} {v:AV} (hF:F f = some fn) (h:W F fn.body (argEnv asx) g0 (retQ fn.res v)) (ha:arB fn asx = true:=by rfl):pureS F f asx = some v:=by
 obtain ⟨o,e,g,h1,h2⟩:=h
 unfold pureS
 rw[callS_eq,hF]
 simp only[ha,h1]
 cases o with
 | ext n => exact h2.elim
 | nrm =>
   have h2:(match resE fn.res e g with | some v0 => frz g.hp depth v0 | none => none) = some v:=h2
   cases hr:resE fn.res e g with
   | none => rw[hr] at h2;cases h2
   | some v0 => rw[hr] at h2;simp only[hr,Option.map_some];exact h2
 | ret =>
   have h2:(match resE fn.res e g with | some v0 => frz g.hp depth v0 | none => none) = some v:=h2
   cases hr:resE fn.res e g with
   | none => rw[hr] at h2;cases h2
   | some v0 => rw[hr] at h2;simp only[hr,Option.map_some];exact h2
end
theorem argEnv_0 (a l):argEnv (a :: l) 0 = a:=rfl
theorem argEnv_1 (a b l):argEnv (a :: b :: l) 1 = b:=rfl
theorem argEnv_2 (a b c l):argEnv (a :: b :: c :: l) 2 = c:=rfl
theorem argEnv_3 (a b c d l):argEnv (a :: b :: c :: d :: l) 3 = d:=rfl
theorem argEnv_4 (a b c d e l):argEnv (a :: b :: c :: d :: e :: l) 4 = e:=rfl
theorem argEnv_5 (a b c d e f l):argEnv (a :: b :: c :: d :: e :: f :: l) 5 = f:=rfl
theorem res_1 (n e g):resE [.t n] e g = some (e n):=rfl
theorem res_2 (n m e g):resE [.t n,.t m] e g = some (.tup [e n,e m]):=rfl
theorem frz_flat {hp} {d:Nat} {v:AV} (h:flat v = true):frz hp (d + 1) v = some v:=by cases v<;>first | (cases h;done) | simp only[frz]
theorem frzL_flat {hp} {d:Nat}:∀ {cs:List AV},cs.all flat = true→frzL hp (d + 1) cs = some cs
 | [],_ => by simp only[frzL]
 | c :: cs,h => by
   simp only[List.all_cons,Bool.and_eq_true] at h
   simp only[frzL,frz_flat h.1,frzL_flat h.2]
theorem frzL_nil (hp d):frzL hp d [] = some []:=by simp only[frzL]
def consO (c:Option AV) (cs:Option (List AV)):Option (List AV):=match c,cs with
 | some c,some cs => some (c :: cs)
 | _,_ => none
theorem consO_ok (c cs):consO (some c) (some cs) = some (c :: cs):=rfl
theorem frzL_cons (hp d c cs):frzL hp d (c :: cs) = consO (frz hp d c) (frzL hp d cs):=by
 simp only[frzL]
 cases frz hp d c<;>cases frzL hp d cs<;>rfl
theorem frz_d_i (hp k n):frz hp depth (.i k n) = some (.i k n):=by show frz hp (8 + 1) _ = _;simp only[frz]
theorem frz_d_b (hp x):frz hp depth (.b x) = some (.b x):=by show frz hp (8 + 1) _ = _;simp only[frz]
theorem frz_d_s (hp x):frz hp depth (.s x) = some (.s x):=by show frz hp (8 + 1) _ = _;simp only[frz]
theorem frz_d_nilp (hp):frz hp depth .nilp = some .nilp:=by show frz hp (8 + 1) _ = _;simp only[frz]
theorem frz_d_ptr (hp cs):frz hp depth (.ptr cs) = some (.ptr cs):=by show frz hp (8 + 1) _ = _;simp only[frz]
theorem frz_d_sl (hp cs n t):frz hp depth (.sl cs n t) = some (.sl cs n .non):=by show frz hp (8 + 1) _ = _;simp only[frz]
theorem frz_d_fn0 (hp f):frz hp depth (.fn f [] []) = some (.fn f [] []):=by show frz hp (8 + 1) _ = _;simp only[frz,frzL]
noncomputable def frzB (hp:Nat→Option Blk) (off:Nat) (cs:List AV) (x:Bool):Option (List AV):=if x then some (cs.drop off) else frzL hp 8 (cs.drop off)
noncomputable def frzP (hp:Nat→Option Blk) (off:Nat) (f:List AV→AV):Option Blk→Option AV
 | some (.cells cs _) => (frzB hp off cs (cs.all flat)).map f
 | _ => none
theorem frzB_eq (hp:Nat→Option Blk) (off:Nat) (cs:List AV):frzB hp off cs (cs.all flat) = frzL hp 8 (cs.drop off):=by
 unfold frzB
 split
 ·rename_i hf
  refine (frzL_flat ?_).symm
  rw[List.all_eq_true] at hf ⊢
  exact fun x hx => hf x (List.mem_of_mem_drop hx)
 ·rfl
theorem frz_P (hp:Nat→Option Blk) (id off:Nat):frz hp depth (.mp id off) = frzP hp off .ptr (hp id):=by
 show frz hp (8 + 1) _ = _
 simp only[frz]
 unfold frzP
 simp only[frzB_eq]
 cases hp id with
 | none => rfl
 | some b => cases b<;>rfl
theorem frz_Q (hp:Nat→Option Blk) (id off n:Nat):frz hp depth (.ms id off n) = frzP hp off (fun cs => .sl cs n .non) (hp id):=by
 show frz hp (8 + 1) _ = _
 simp only[frz]
 unfold frzP
 simp only[frzB_eq]
 cases hp id with
 | none => rfl
 | some b => cases b<;>rfl
theorem frzP_cells (hp off f cs ro):frzP hp off f (some (.cells cs ro)) = (frzB hp off cs (cs.all flat)).map f:=rfl
theorem frzB_true (hp off cs):frzB hp off cs true = some (cs.drop off):=rfl
theorem map_some' (f:List AV→AV) (cs:List AV):(some cs).map f = some (f cs):=rfl
noncomputable def purD (g:G) (vs:List Nat):Option AV→Option (AV × G)
 | some v => if flat v || vs.isEmpty then some (v,g) else none
 | none => none
def purE (g:G) (v:AV) (x:Bool):Option (AV × G):=if x then some (v,g) else none
theorem purD_some (g vs v):purD g vs (some v) = purE g v (flat v || vs.isEmpty):=rfl
theorem purE_true (g v):purE g v true = some (v,g):=rfl
noncomputable def purS (F:Funs) (f:Nat) (g:G) (vs:List Nat):Option (List AV)→Option (AV × G)
 | some bs => purD g vs (pureS F f bs)
 | none => none
theorem purS_some (F f g vs bs):purS F f g vs (some bs) = purD g vs (pureS F f bs):=rfl
theorem vPure_S (F:Funs) (al:Nat→Bool) (fid:Nat) (fst args caps:List AV) (g:G):
  vPure F al (.fn fid fst caps) args g = purS F fid g ((fst ++ args ++ caps).flatMap (vis (rd g al) depth)) (frzL (rd g al) depth (fst ++ args ++ caps)):=by
 unfold vPure vCall
 simp only
 cases frzL (rd g al) depth (fst ++ args ++ caps) with
 | none => rfl
 | some bs =>
   rw[purS_some]
   unfold pureS g0
   simp only
   cases callS F fid bs ⟨fun _ => none,0⟩ with
   | none => rfl
   | some r =>
     obtain ⟨v,g'⟩:=r
     simp only
     cases frz g'.hp depth v with
     | none => rfl
     | some v' => rfl
theorem flat_i (k n):flat (.i k n) = true:=rfl
theorem flat_b (x):flat (.b x) = true:=rfl
theorem flat_s (x):flat (.s x) = true:=rfl
theorem flat_nilp:flat .nilp = true:=rfl
theorem flat_ptr (x):flat (.ptr x) = false:=rfl
theorem flat_sl (a b c):flat (.sl a b c) = false:=rfl
theorem flat_agg (a):flat (.agg a) = false:=rfl
theorem flat_tup (a):flat (.tup a) = false:=rfl
theorem vis_i (hp k n):vis hp depth (.i k n) = []:=by show vis hp (8 + 1) _ = _;simp only[vis]
theorem vis_b (hp x):vis hp depth (.b x) = []:=by show vis hp (8 + 1) _ = _;simp only[vis]
theorem vis_s (hp x):vis hp depth (.s x) = []:=by show vis hp (8 + 1) _ = _;simp only[vis]
theorem vis_nilp (hp):vis hp depth .nilp = []:=by show vis hp (8 + 1) _ = _;simp only[vis]
theorem vis_ptr (hp x):vis hp depth (.ptr x) = []:=by show vis hp (8 + 1) _ = _;simp only[vis]
theorem vis_sl (hp a b c):vis hp depth (.sl a b c) = []:=by show vis hp (8 + 1) _ = _;simp only[vis]
theorem vis_fn0 (hp f):vis hp depth (.fn f [] []) = []:=by show vis hp (8 + 1) _ = _;simp only[vis,List.flatMap_nil,List.append_nil]
theorem isEmpty_nil:([]:List Nat).isEmpty = true:=rfl
def midQ (M:Env→G→Prop):Out→Env→G→Prop
 | .nrm,e,g => M e g
 | _,_,_ => False
theorem midQ_nrm {M e g}:midQ M .nrm e g = M e g:=rfl
theorem midQ_then {F:Funs} {rest Q} {M:Env→G→Prop} (h2:∀ e g,M e g→W F rest e g Q) (o e g) (h:midQ M o e g):thenQ F rest Q o e g:=by
 cases o with
 | nrm => exact h2 e g h
 | ext n => exact h.elim
 | ret => exact h.elim
theorem W_cut {F:Funs} {c rest e g Q} (M:Env→G→Prop) (h1:W F c e g (midQ M)) (h2:∀ e g,M e g→W F rest e g Q):W F c e g (thenQ F rest Q):=W_mono h1 (midQ_then h2)
theorem sel_cut {F:Funs} {t f rest e g Q v} (M:Env→G→Prop) (h1:selW F t f e g (midQ M) v) (h2:∀ e g,M e g→W F rest e g Q):selW F t f e g (thenQ F rest Q) v:=by
 cases v<;>simp only[selW] at h1 ⊢
 rename_i x
 cases x<;>exact W_mono h1 (midQ_then h2)
theorem frz_b_inv {hp:Nat→Option Blk} {k:Nat} {v:AV} {b:Bool} (h:frz hp (k + 1) v = some (.b b)):v = .b b:=by
 cases v with
 | b x => simp only[frz] at h;cases h;rfl
 | agg cs => simp only[frz] at h;cases hf:frzL hp k cs<;>rw[hf] at h<;>cases h
 | tup cs => simp only[frz] at h;cases hf:frzL hp k cs<;>rw[hf] at h<;>cases h
 | mp id off =>
   simp only[frz] at h
   split at h
   ·cases hf:frzL hp k (List.drop off _)<;>rw[hf] at h<;>cases h
   ·cases h
 | ms id off n =>
   simp only[frz] at h
   split at h
   ·cases hf:frzL hp k (List.drop off _)<;>rw[hf] at h<;>cases h
   ·cases h
 | fn f asx bs => simp only[frz] at h;split at h<;>cases h
 | ifc t w => simp only[frz] at h;cases hf:frz hp k w<;>rw[hf] at h<;>cases h
 | _ => simp only[frz] at h;cases h
theorem pureS_bool {F:Funs} {f:Nat} {asx:List AV} {b:Bool} (h:pureS F f asx = some (.b b)):∃ k g',callE F k f asx g0 = some (.b b,g'):=by
 unfold pureS at h
 split at h
 ·rename_i v g hc
  have:=frz_b_inv (k:=8) h
  subst this
  obtain ⟨k,hk⟩:=(callS_some F).1 hc
  exact ⟨k,g,hk⟩
 ·cases h
def retB (rs:List ARes) (P:Bool→Prop):Out→Env→G→Prop
 | .ext _,_,_ => False
 | _,e,g => ∃ b,resE rs e g = some (.b b)∧P b
theorem retB_nrm {rs P e g}:retB rs P .nrm e g = (∃ b,resE rs e g = some (.b b)∧P b):=rfl
theorem retB_ret {rs P e g}:retB rs P .ret e g = (∃ b,resE rs e g = some (.b b)∧P b):=rfl
theorem blk_cut {F:Funs} {c rest:ACode} {id:Nat} {e:Env} {g:G} {Q:Out→Env→G→Prop} (M:Env→G→Prop) (h1:W F c e g (blkQ id (midQ M))) (h2:∀ e g,M e g→W F rest e g Q):W F c e g (blkQ id (thenQ F rest Q)):=by
 refine W_mono h1 fun o e g h => ?_
 cases o with
 | nrm => exact h2 e g h
 | ret => exact h.elim
 | ext n =>
   have h:if n = id then midQ M .nrm e g else midQ M (.ext n) e g:=h
   show if n = id then thenQ F rest Q .nrm e g else thenQ F rest Q (.ext n) e g
   by_cases hn:n = id
   ·rw[if_pos hn] at h ⊢;exact h2 e g h
   ·rw[if_neg hn] at h;exact h.elim
def midR (Q:Out→Env→G→Prop) (M:Env→G→Prop):Out→Env→G→Prop
 | .nrm,e,g => M e g
 | .ret,e,g => Q .ret e g
 | .ext _,_,_ => False
theorem midR_nrm {Q M e g}:midR Q M .nrm e g = M e g:=rfl
theorem midR_ret {Q M e g}:midR Q M .ret e g = Q .ret e g:=rfl
theorem blk_cutR {F:Funs} {c rest:ACode} {id:Nat} {e:Env} {g:G} {Q:Out→Env→G→Prop} (M:Env→G→Prop) (h1:W F c e g (blkQ id (midR Q M))) (h2:∀ e g,M e g→W F rest e g Q):W F c e g (blkQ id (thenQ F rest Q)):=by
 refine W_mono h1 fun o e g h => ?_
 cases o with
 | nrm => exact h2 e g h
 | ret => exact h
 | ext n =>
   have h:if n = id then midR Q M .nrm e g else midR Q M (.ext n) e g:=h
   show if n = id then thenQ F rest Q .nrm e g else thenQ F rest Q (.ext n) e g
   by_cases hn:n = id
   ·rw[if_pos hn] at h ⊢;exact h2 e g h
   ·rw[if_neg hn] at h;exact h.elim
theorem wp:type_of% (And.intro (And.intro (And.intro (And.intro (And.intro (And.intro (And.intro @W_skip (And.intro @W_ext @W_ret)) (And.intro (And.intro @W_seq @thenQ_nrm) (And.intro @thenQ_ext @thenQ_ret))) (And.intro (And.intro (And.intro @W_cond @selW_true) (And.intro @selW_false @W_blk)) (And.intro (And.intro @blkQ_nrm @blkQ_ret) (And.intro @blkQ_same @blkQ_ne)))) (And.intro (And.intro (And.intro @W_reg (And.intro @nrmQ_is @WR_nil)) (And.intro (And.intro @WR_cons @selO_true) (And.intro @selO_false @bindO_some))) (And.intro (And.intro (And.intro @loopQ_nrm @loopQ_ext) (And.intro @loopQ_ret @wanted_none)) (And.intro (And.intro @wanted_some @wantV_1) (And.intro @wantV_0 @wantV_undef))))) (And.intro (And.intro (And.intro (And.intro @ev_t (And.intro @ev_c @put_some)) (And.intro (And.intro @put_none @upd_same) (And.intro @upd_ne @List.length_cons.{0}))) (And.intro (And.intro (And.intro @List.length_nil.{0} @List.map_cons.{0,0}) (And.intro @List.map_nil.{0,0} @allow_no)) (And.intro (And.intro @allow_lt @argEnv_0) (And.intro @argEnv_1 @argEnv_2)))) (And.intro (And.intro (And.intro (And.intro @argEnv_3 @argEnv_4) (And.intro @argEnv_5 @res_1)) (And.intro (And.intro @res_2 @retQ_nrm) (And.intro @retQ_ret @o_mv))) (And.intro (And.intro (And.intro @o_pick @vPick_t) (And.intro @vPick_f @o_new)) (And.intro (And.intro @o_box @vBox_S) (And.intro @boxD_ok @vMap_some)))))) (And.intro (And.intro (And.intro (And.intro (And.intro @vMapL_some (And.intro @o_build @o_ld)) (And.intro (And.intro @vLd_ptr @vLd_S) (And.intro @ldS_ok @selB_true))) (And.intro (And.intro (And.intro @o_st @vSt_S) (And.intro @stS_ok @stD_ok)) (And.intro (And.intro @o_nilck @vNil_ptr) (And.intro @vNil_mp @vNil_fn)))) (And.intro (And.intro (And.intro (And.intro @o_bin @o_un) (And.intro @o_mkfn @o_fa)) (And.intro (And.intro @vFa_mp @vFa_S) (And.intro @faD_ok @o_fld))) (And.intro (And.intro (And.intro @vFld_agg @o_ia) (And.intro @vIa_sl @vIa_ms)) (And.intro (And.intro @o_iaa @vIaa_ptr) (And.intro @vIaa_mp @o_len))))) (And.intro (And.intro (And.intro (And.intro @vLen_sl (And.intro @vLen_ms @o_mx)) (And.intro (And.intro @o_mn @vMx_i) (And.intro @vMn_i @o_ext))) (And.intro (And.intro (And.intro @vExt_tup @b_add) (And.intro @b_sub @b_mul)) (And.intro (And.intro @b_lss @b_leq) (And.intro @b_gtr @b_geq)))) (And.intro (And.intro (And.intro (And.intro @b_eql @b_neq) (And.intro @o_pure @List.nil_append.{0})) (And.intro (And.intro @List.append_nil.{0} @List.cons_append.{0}) (And.intro @frz_d_i @frz_d_b))) (And.intro (And.intro (And.intro @frz_d_s @frz_d_nilp) (And.intro @frz_d_ptr @frz_d_sl)) (And.intro (And.intro @frz_d_fn0 @Bool.not_true) (And.intro @Bool.not_false @Bool.true_and))))))) (And.intro (And.intro (And.intro (And.intro (And.intro (And.intro @Bool.and_true (And.intro @Bool.false_and @Bool.and_false)) (And.intro (And.intro @decide_true @decide_false) (And.intro @beq_self_eq_true.{0} @Bool.true_eq_false))) (And.intro (And.intro (And.intro @Bool.false_eq_true @Nat.zero_add) (And.intro @Nat.add_zero @Int.toNat_natCast)) (And.intro (And.intro @ge_iff_le.{0} @gt_iff_lt.{0}) (And.intro @fill_S @fillD_ok)))) (And.intro (And.intro (And.intro (And.intro @fill_nil @cellsOf_agg) (And.intro @cellsOf_i @cellsOf_b)) (And.intro (And.intro @cellsOf_s @cellsOf_ptr) (And.intro @cellsOf_nilp @cellsOf_sl))) (And.intro (And.intro (And.intro @cellsOf_mp @cellsOf_fn) (And.intro @one_i @one_b)) (And.intro (And.intro @one_s @one_ptr) (And.intro @one_nilp @one_sl))))) (And.intro (And.intro (And.intro (And.intro @one_mp (And.intro @one_fn @List.all_cons.{0})) (And.intro (And.intro @List.all_nil.{0} @splice_1) (And.intro @splice_2 @splice_3))) (And.intro (And.intro (And.intro @part_0 @part_1) (And.intro @part_2 @drop_0)) (And.intro (And.intro @g0_nx @g0_hp) (And.intro @List.set_cons_zero.{0} @List.set_cons_succ.{0})))) (And.intro (And.intro (And.intro (And.intro @List.length_append.{0} @List.length_replicate.{0}) (And.intro @eq_self.{1} @true_and)) (And.intro (And.intro @and_true @vPure_S) (And.intro @purS_some @purD_some))) (And.intro (And.intro (And.intro @purE_true @frzL_cons) (And.intro @frzL_nil @consO_ok)) (And.intro (And.intro @flat_i @flat_b) (And.intro @flat_s @flat_nilp)))))) (And.intro (And.intro (And.intro (And.intro (And.intro @flat_ptr (And.intro @flat_sl @flat_agg)) (And.intro (And.intro @flat_tup @vis_i) (And.intro @vis_b @vis_s))) (And.intro (And.intro (And.intro @vis_nilp @vis_ptr) (And.intro @vis_sl @vis_fn0)) (And.intro (And.intro @List.flatMap_cons.{0,0} @List.flatMap_nil.{0,0}) (And.intro @isEmpty_nil @Bool.true_or)))) (And.intro (And.intro (And.intro (And.intro @Bool.false_or @Bool.or_true) (And.intro @Bool.or_false @frz_P)) (And.intro (And.intro @frz_Q @frzP_cells) (And.intro @frzB_true @map_some'))) (And.intro (And.intro (And.intro @rd_S @o_bsl) (And.intro @vBsl_t @vBsl_f)) (And.intro (And.intro @o_app @appD_ok) (And.intro @vApp_rig @vApp_rig0))))) (And.intro (And.intro (And.intro (And.intro @appK_ok (And.intro @vApp_own @o_eqn)) (And.intro (And.intro @o_eqb @o_eqa) (And.intro @aeqn_pn @aeqn_np))) (And.intro (And.intro (And.intro @aeqn_mn @aeqn_nn) (And.intro @aeqb_bb @negb_t)) (And.intro (And.intro @negb_f @aun_not) (And.intro @midQ_nrm @part_3)))) (And.intro (And.intro (And.intro (And.intro @part_4 @part_5) (And.intro @cellsOf_ms @one_ms)) (And.intro (And.intro @Int.toNat_zero @Nat.zero_mul) (And.intro @o_stL @andLe_ok))) (And.intro (And.intro (And.intro @allow_hd @allow_h2) (And.intro @retB_nrm @retB_ret)) (And.intro (And.intro @midR_nrm @midR_ret) (And.intro @W_scp @W_lab)))))))):=(And.intro (And.intro (And.intro (And.intro (And.intro (And.intro (And.intro @W_skip (And.intro @W_ext @W_ret)) (And.intro (And.intro @W_seq @thenQ_nrm) (And.intro @thenQ_ext @thenQ_ret))) (And.intro (And.intro (And.intro @W_cond @selW_true) (And.intro @selW_false @W_blk)) (And.intro (And.intro @blkQ_nrm @blkQ_ret) (And.intro @blkQ_same @blkQ_ne)))) (And.intro (And.intro (And.intro @W_reg (And.intro @nrmQ_is @WR_nil)) (And.intro (And.intro @WR_cons @selO_true) (And.intro @selO_false @bindO_some))) (And.intro (And.intro (And.intro @loopQ_nrm @loopQ_ext) (And.intro @loopQ_ret @wanted_none)) (And.intro (And.intro @wanted_some @wantV_1) (And.intro @wantV_0 @wantV_undef))))) (And.intro (And.intro (And.intro (And.intro @ev_t (And.intro @ev_c @put_some)) (And.intro (And.intro @put_none @upd_same) (And.intro @upd_ne @List.length_cons.{0}))) (And.intro (And.intro (And.intro @List.length_nil.{0} @List.map_cons.{0,0}) (And.intro @List.map_nil.{0,0} @allow_no)) (And.intro (And.intro @allow_lt @argEnv_0) (And.intro @argEnv_1 @argEnv_2)))) (And.intro (And.intro (And.intro (And.intro @argEnv_3 @argEnv_4) (And.intro @argEnv_5 @res_1)) (And.intro (And.intro @res_2 @retQ_nrm) (And.intro @retQ_ret @o_mv))) (And.intro (And.intro (And.intro @o_pick @vPick_t) (And.intro @vPick_f @o_new)) (And.intro (And.intro @o_box @vBox_S) (And.intro @boxD_ok @vMap_some)))))) (And.intro (And.intro (And.intro (And.intro (And.intro @vMapL_some (And.intro @o_build @o_ld)) (And.intro (And.intro @vLd_ptr @vLd_S) (And.intro @ldS_ok @selB_true))) (And.intro (And.intro (And.intro @o_st @vSt_S) (And.intro @stS_ok @stD_ok)) (And.intro (And.intro @o_nilck @vNil_ptr) (And.intro @vNil_mp @vNil_fn)))) (And.intro (And.intro (And.intro (And.intro @o_bin @o_un) (And.intro @o_mkfn @o_fa)) (And.intro (And.intro @vFa_mp @vFa_S) (And.intro @faD_ok @o_fld))) (And.intro (And.intro (And.intro @vFld_agg @o_ia) (And.intro @vIa_sl @vIa_ms)) (And.intro (And.intro @o_iaa @vIaa_ptr) (And.intro @vIaa_mp @o_len))))) (And.intro (And.intro (And.intro (And.intro @vLen_sl (And.intro @vLen_ms @o_mx)) (And.intro (And.intro @o_mn @vMx_i) (And.intro @vMn_i @o_ext))) (And.intro (And.intro (And.intro @vExt_tup @b_add) (And.intro @b_sub @b_mul)) (And.intro (And.intro @b_lss @b_leq) (And.intro @b_gtr @b_geq)))) (And.intro (And.intro (And.intro (And.intro @b_eql @b_neq) (And.intro @o_pure @List.nil_append.{0})) (And.intro (And.intro @List.append_nil.{0} @List.cons_append.{0}) (And.intro @frz_d_i @frz_d_b))) (And.intro (And.intro (And.intro @frz_d_s @frz_d_nilp) (And.intro @frz_d_ptr @frz_d_sl)) (And.intro (And.intro @frz_d_fn0 @Bool.not_true) (And.intro @Bool.not_false @Bool.true_and))))))) (And.intro (And.intro (And.intro (And.intro (And.intro (And.intro @Bool.and_true (And.intro @Bool.false_and @Bool.and_false)) (And.intro (And.intro @decide_true @decide_false) (And.intro @beq_self_eq_true.{0} @Bool.true_eq_false))) (And.intro (And.intro (And.intro @Bool.false_eq_true @Nat.zero_add) (And.intro @Nat.add_zero @Int.toNat_natCast)) (And.intro (And.intro @ge_iff_le.{0} @gt_iff_lt.{0}) (And.intro @fill_S @fillD_ok)))) (And.intro (And.intro (And.intro (And.intro @fill_nil @cellsOf_agg) (And.intro @cellsOf_i @cellsOf_b)) (And.intro (And.intro @cellsOf_s @cellsOf_ptr) (And.intro @cellsOf_nilp @cellsOf_sl))) (And.intro (And.intro (And.intro @cellsOf_mp @cellsOf_fn) (And.intro @one_i @one_b)) (And.intro (And.intro @one_s @one_ptr) (And.intro @one_nilp @one_sl))))) (And.intro (And.intro (And.intro (And.intro @one_mp (And.intro @one_fn @List.all_cons.{0})) (And.intro (And.intro @List.all_nil.{0} @splice_1) (And.intro @splice_2 @splice_3))) (And.intro (And.intro (And.intro @part_0 @part_1) (And.intro @part_2 @drop_0)) (And.intro (And.intro @g0_nx @g0_hp) (And.intro @List.set_cons_zero.{0} @List.set_cons_succ.{0})))) (And.intro (And.intro (And.intro (And.intro @List.length_append.{0} @List.length_replicate.{0}) (And.intro @eq_self.{1} @true_and)) (And.intro (And.intro @and_true @vPure_S) (And.intro @purS_some @purD_some))) (And.intro (And.intro (And.intro @purE_true @frzL_cons) (And.intro @frzL_nil @consO_ok)) (And.intro (And.intro @flat_i @flat_b) (And.intro @flat_s @flat_nilp)))))) (And.intro (And.intro (And.intro (And.intro (And.intro @flat_ptr (And.intro @flat_sl @flat_agg)) (And.intro (And.intro @flat_tup @vis_i) (And.intro @vis_b @vis_s))) (And.intro (And.intro (And.intro @vis_nilp @vis_ptr) (And.intro @vis_sl @vis_fn0)) (And.intro (And.intro @List.flatMap_cons.{0,0} @List.flatMap_nil.{0,0}) (And.intro @isEmpty_nil @Bool.true_or)))) (And.intro (And.intro (And.intro (And.intro @Bool.false_or @Bool.or_true) (And.intro @Bool.or_false @frz_P)) (And.intro (And.intro @frz_Q @frzP_cells) (And.intro @frzB_true @map_some'))) (And.intro (And.intro (And.intro @rd_S @o_bsl) (And.intro @vBsl_t @vBsl_f)) (And.intro (And.intro @o_app @appD_ok) (And.intro @vApp_rig @vApp_rig0))))) (And.intro (And.intro (And.intro (And.intro @appK_ok (And.intro @vApp_own @o_eqn)) (And.intro (And.intro @o_eqb @o_eqa) (And.intro @aeqn_pn @aeqn_np))) (And.intro (And.intro (And.intro @aeqn_mn @aeqn_nn) (And.intro @aeqb_bb @negb_t)) (And.intro (And.intro @negb_f @aun_not) (And.intro @midQ_nrm @part_3)))) (And.intro (And.intro (And.intro (And.intro @part_4 @part_5) (And.intro @cellsOf_ms @one_ms)) (And.intro (And.intro @Int.toNat_zero @Nat.zero_mul) (And.intro @o_stL @andLe_ok))) (And.intro (And.intro (And.intro @allow_hd @allow_h2) (And.intro @retB_nrm @retB_ret)) (And.intro (And.intro @midR_nrm @midR_ret) (And.intro @W_scp @W_lab))))))))
end Go.Ab
end
section
set_option linter.unusedVariables false
set_option linter.unusedSimpArgs false
namespace Go.Ab
open Go.RowKit
def c0 (num:Nat→Nat) (w:World):Cx:=⟨num,w.heap.size,fun _ => True,w,fun _ => (0,0),fun _ => none⟩
theorem row_callsG {P:Program} {num:Nat→Nat} {F:Funs} (hT:Table P num F) (hm:P.follows .mixedOrders = true) {f:Nat} {asx:List AV} {b:Bool} (h:pureS F f asx = some (.b b)) {w:World} {vargs:List Value} (hr:Reps (c0 num w) true asx vargs) (hgl:GlOk (c0 num w)):
  Calls P (num f) vargs.toArray w (fun e w' => e = .returned (.bool b)∧Below w.heap.size w w'):=by
 obtain ⟨k,g',hk⟩:=pureS_bool h
 have K:Ok (c0 num w) 0:={
  basele:=Nat.le_refl _
  cells:=fun _ _ _ h => by cases h
  maps:=fun _ _ h => by cases h
  toks:=fun _ h => by cases h
  inj:=fun _ _ _ h => by obtain ⟨_,h,_⟩:=h;cases h
  fresh:=fun _ _ => rfl
  gl:=hgl }
 have:=((callE_ok hT hm k).2 f asx g0 _ _ hk).2 (c0 num w) vargs rfl rfl K hr
 refine Calls.mono this.1 fun e w' ⟨val,c',h1,h2,E,_,_,hrep⟩ => ?_
 cases hrep
 exact ⟨h1,h2 ▸ E.below⟩
theorem row_calls {P:Program} {num:Nat→Nat} {F:Funs} (hT:Table P num F) (hm:P.follows .mixedOrders = true) (hz:num 1000000 = 0) {f:Nat} {asx:List AV} {b:Bool} (h:pureS F f asx = some (.b b)) {w:World} {vargs:List Value} (hr:Reps (c0 num w) true asx vargs):
  Calls P (num f) vargs.toArray w (fun e w' => e = .returned (.bool b)∧Below w.heap.size w w'):=
 row_callsG hT hm h hr fun k h => by rw[show (c0 num w).num 1000000 = 0 from hz] at h;cases h
def intsC (l:List Int):List AV:=l.map fun v => .i .i64 v
def pairsC (l:List (Int × Int)):List AV:=l.flatMap fun p => [.i .i64 p.1,.i .i64 p.2]
theorem sh_ints {P:Program} {t e:TypeId} {x:AV} (ht:P.underlying t = some (.slice e)) (he:P.underlying e = some (.int .i64)) (h:Sh P 2 t [x]):
  ∃ l:List Int,x = .sl (intsC l) l.length .non∧l.length≤maxLen∧∀ n∈l,(Lit.int .i64 n).wf = true:=by
 simp only[Sh,ht,he] at h
 obtain ⟨cs,n,hx,hn,rows,hl,rfl,hS⟩:=h
 cases hx
 have key:∀ rows:List (List AV),(∀ r∈rows,∃ n,r = [AV.i .i64 n]∧(Lit.int .i64 n).wf = true)→∃ l:List Int,rows.flatten = intsC l∧l.length = rows.length∧∀ n∈l,(Lit.int .i64 n).wf = true:=by
  intro rows
  induction rows with
  | nil => intro _;exact ⟨[],rfl,rfl,fun _ h => by cases h⟩
  | cons r rows ih =>
    intro h
    obtain ⟨n,rfl,hn⟩:=h r (List.mem_cons_self ..)
    obtain ⟨l,h1,h2,h3⟩:=ih fun r hr => h r (List.mem_cons_of_mem _ hr)
    refine ⟨n :: l,by rw[List.flatten_cons,h1];rfl,by simp[h2],fun m hm => ?_⟩
    rcases List.mem_cons.1 hm with rfl | hm
    ·exact hn
    ·exact h3 m hm
 obtain ⟨l,h1,h2,h3⟩:=key rows hS
 exact ⟨l,by rw[h1,←hl,h2],by omega,h3⟩
end Go.Ab
end
section
set_option linter.unusedVariables false
set_option linter.unusedSimpArgs false
namespace Go.Ab
def RiI (l:List Int):Prop:=l.Pairwise (· < ·)
def SrI (l:List Int):Prop:=l.Pairwise (·≤·)
theorem riI_ext:∀ {a b:List Int},RiI a→RiI b→(∀ x,x∈a↔x∈b)→a = b
 | [],[],_,_,_ => rfl
 | [],y :: b,_,_,h => by have:=(h y).2 (List.mem_cons_self ..);cases this
 | x :: a,[],_,_,h => by have:=(h x).1 (List.mem_cons_self ..);cases this
 | x :: a,y :: b,ha,hb,h => by
   obtain ⟨a1,a2⟩:=List.pairwise_cons.1 ha
   obtain ⟨b1,b2⟩:=List.pairwise_cons.1 hb
   have hxy:x = y:=by
    rcases List.mem_cons.1 ((h x).1 (List.mem_cons_self ..)) with e | hx
    ·exact e
    ·rcases List.mem_cons.1 ((h y).2 (List.mem_cons_self ..)) with e | hy
     ·exact e.symm
     ·have:=a1 y hy;have:=b1 x hx;omega
   subst hxy
   rw[riI_ext a2 b2 fun z => ?_]
   constructor
   ·intro hz
    rcases List.mem_cons.1 ((h z).1 (List.mem_cons_of_mem _ hz)) with e | hz2
    ·subst e;have:=a1 z hz;omega
    ·exact hz2
   ·intro hz
    rcases List.mem_cons.1 ((h z).2 (List.mem_cons_of_mem _ hz)) with e | hz2
    ·subst e;have:=b1 z hz;omega
    ·exact hz2
def cptI:List Int→List Int
 | [] => []
 | [a] => [a]
 | a :: b :: l => if a = b then cptI (b :: l) else a :: cptI (b :: l)
theorem cptI_mem:∀ {l:List Int} {x:Int},x∈cptI l↔x∈l
 | [],x => by simp[cptI]
 | [a],x => by simp[cptI]
 | a :: b :: l,x => by
   unfold cptI
   split
   ·rename_i h
    subst h
    rw[cptI_mem]
    simp
   ·rw[List.mem_cons,cptI_mem,List.mem_cons (b:=a)]
theorem cptI_rise:∀ {l:List Int},SrI l→RiI (cptI l)
 | [],_ => List.Pairwise.nil
 | [a],_ => by simp[cptI,RiI]
 | a :: b :: l,h => by
   obtain ⟨h1,h2⟩:=List.pairwise_cons.1 h
   unfold cptI
   split
   ·exact cptI_rise h2
   ·rename_i hab
    refine List.pairwise_cons.2 ⟨fun x hx => ?_,cptI_rise h2⟩
    have hx:=cptI_mem.1 hx
    obtain ⟨g1,g2⟩:=List.pairwise_cons.1 h2
    have lab:=h1 b (List.mem_cons_self ..)
    rcases List.mem_cons.1 hx with rfl | hx
    ·omega
    ·have:=g1 x hx;omega
theorem cptI_two (a b:Int) (l:List Int):cptI (a :: b :: l) = if a = b then cptI (b :: l) else a :: cptI (b :: l):=by
 rw[cptI]
theorem cptI_snoc:∀ (l:List Int) (x y:Int),cptI (l ++ [x,y]) = if x = y then cptI (l ++ [x]) else cptI (l ++ [x]) ++ [y]
 | [],x,y => by
   show cptI [x,y] = if x = y then cptI [x] else cptI [x] ++ [y]
   rw[cptI_two]
   by_cases h:x = y
   ·subst h;rfl
   ·rw[if_neg h,if_neg h];rfl
 | [a],x,y => by
   have ih:=cptI_snoc [] x y
   simp only[List.nil_append] at ih
   show cptI (a :: x :: [y]) = if x = y then cptI (a :: x :: []) else cptI (a :: x :: []) ++ [y]
   rw[cptI_two a x [y],cptI_two a x [],show cptI (x :: [y]) = _ from ih]
   by_cases h:a = x<;>by_cases k:x = y<;>simp[h,k]
 | a :: b :: l,x,y => by
   have ih:=cptI_snoc (b :: l) x y
   simp only[List.cons_append] at ih
   show cptI (a :: b :: (l ++ [x,y])) = if x = y then cptI (a :: b :: (l ++ [x])) else cptI (a :: b :: (l ++ [x])) ++ [y]
   rw[cptI_two,cptI_two,ih]
   by_cases h:a = b<;>by_cases k:x = y<;>simp[h,k]
theorem cptI_take {l:List Int} {k:Nat} (h0:1≤k) (h:k < l.length):cptI (l.take (k + 1)) = if l.getD (k - 1) 0 = l.getD k 0 then cptI (l.take k) else cptI (l.take k) ++ [l.getD k 0]:=by
 obtain ⟨j,rfl⟩:∃ j,k = j + 1:=⟨k - 1,by omega⟩
 have g1:l.getD (j + 1) 0 = l[j + 1]:=by rw[List.getD_eq_getElem?_getD,List.getElem?_eq_getElem h];rfl
 have g0:l.getD (j + 1 - 1) 0 = l[j]:=by rw[List.getD_eq_getElem?_getD,show j + 1 - 1 = j from rfl,List.getElem?_eq_getElem (by omega)];rfl
 have e1:l.take (j + 1) = l.take j ++ [l[j]]:=by rw[List.take_succ_eq_append_getElem]
 have e2:l.take (j + 1 + 1) = l.take j ++ [l[j],l[j + 1]]:=by
  have e3:l.take (j + 1 + 1) = l.take (j + 1) ++ [l[j + 1]]:=List.take_succ_eq_append_getElem h
  rw[e3,e1,List.append_assoc]
  rfl
 rw[e2,e1,cptI_snoc,g0,g1]
theorem cptI_one {l:List Int} (h:1≤l.length):cptI (l.take 1) = l.take 1:=by
 cases l with
 | nil => rfl
 | cons a l => simp[cptI]
theorem getI_get {l:List Int} {k:Nat} (h:k < l.length):l.getD k 0 = l[k]:=by
 rw[List.getD_eq_getElem?_getD,List.getElem?_eq_getElem h];rfl
theorem srI_at {l:List Int} (h:∀ p q,p < q→q < l.length→l.getD p 0≤l.getD q 0):SrI l:=by
 refine List.pairwise_iff_getElem.2 fun i j hi hj hij => ?_
 have:=h i j hij hj
 rwa [getI_get hi,getI_get hj] at this
def swpI (l:List Int) (i j:Nat):List Int:=(l.set i (l.getD j 0)).set j (l.getD i 0)
theorem swpI_len (l:List Int) (i j:Nat):(swpI l i j).length = l.length:=by simp[swpI]
theorem swpI_at {l:List Int} {i j k:Nat} (hi:i < l.length) (hj:j < l.length):(swpI l i j).getD k 0 = if k = j then l.getD i 0 else if k = i then l.getD j 0 else l.getD k 0:=by
 unfold swpI
 rw[List.getD_eq_getElem?_getD,List.getElem?_set]
 by_cases h:j = k
 ·subst h
  rw[if_pos rfl,if_pos (by simpa using hj),if_pos rfl];rfl
 ·rw[if_neg h,if_neg (fun h2 => h h2.symm),List.getElem?_set]
  by_cases h2:i = k
  ·subst h2
   rw[if_pos rfl,if_pos hi,if_pos rfl];rfl
  ·rw[if_neg h2,if_neg (fun h3 => h2 h3.symm),List.getD_eq_getElem?_getD]
theorem mem_at {l:List Int} {x:Int}:x∈l↔∃ k,k < l.length∧l.getD k 0 = x:=by
 rw[List.mem_iff_getElem]
 constructor
 ·rintro ⟨k,hk,rfl⟩
  exact ⟨k,hk,getI_get hk⟩
 ·rintro ⟨k,hk,rfl⟩
  exact ⟨k,hk,(getI_get hk).symm⟩
theorem swpI_mem {l:List Int} {i j:Nat} (hi:i < l.length) (hj:j < l.length) (x:Int):x∈swpI l i j↔x∈l:=by
 rw[mem_at,mem_at]
 constructor
 ·rintro ⟨k,hk,h⟩
  rw[swpI_len] at hk
  rw[swpI_at hi hj] at h
  by_cases h1:k = j
  ·rw[if_pos h1] at h;exact ⟨i,hi,h⟩
  ·rw[if_neg h1] at h
   by_cases h2:k = i
   ·rw[if_pos h2] at h;exact ⟨j,hj,h⟩
   ·rw[if_neg h2] at h;exact ⟨k,hk,h⟩
 ·rintro ⟨k,hk,h⟩
  by_cases h1:k = j
  ·subst h1
   refine ⟨i,by rw[swpI_len];exact hi,?_⟩
   rw[swpI_at hi hj]
   by_cases h2:i = k
   ·rw[if_pos h2,h2];exact h
   ·rw[if_neg h2,if_pos rfl];exact h
  ·by_cases h2:k = i
   ·subst h2
    exact ⟨j,by rw[swpI_len];exact hj,by rw[swpI_at hi hj,if_pos rfl];exact h⟩
   ·exact ⟨k,by rw[swpI_len];exact hk,by rw[swpI_at hi hj,if_neg h1,if_neg h2];exact h⟩
def InsJ (l:List Int) (i j:Nat):Prop:=∀ p q,p < q→q≤i→q≠j→l.getD p 0≤l.getD q 0
theorem insJ_swap {l:List Int} {i j:Nat} (h:InsJ l i j) (hj:0 < j) (hji:j≤i) (hi:i < l.length) (hlt:l.getD j 0 < l.getD (j - 1) 0):InsJ (swpI l j (j - 1)) i (j - 1):=by
 intro p q hpq hqi hq
 have hjl:j < l.length:=by omega
 have hjl1:j - 1 < l.length:=by omega
 rw[swpI_at hjl hjl1,swpI_at hjl hjl1]
 by_cases q1:q = j
 ·subst q1
  rw[if_neg hq,if_pos rfl]
  by_cases p1:p = q - 1
  ·rw[if_pos p1];omega
  ·rw[if_neg p1,if_neg (by omega)]
   exact h p (q - 1) (by omega) (by omega) (by omega)
 ·rw[if_neg hq,if_neg q1]
  by_cases p1:p = j - 1
  ·rw[if_pos p1]
   exact h j q (by omega) hqi q1
  ·rw[if_neg p1]
   by_cases p2:p = j
   ·rw[if_pos p2]
    exact h (j - 1) q (by omega) hqi q1
   ·rw[if_neg p2]
    exact h p q hpq hqi q1
theorem insJ_done {l:List Int} {i j:Nat} (h:InsJ l i j) (hj:j = 0∨l.getD (j - 1) 0≤l.getD j 0):∀ p q,p < q→q≤i→l.getD p 0≤l.getD q 0:=by
 intro p q hpq hqi
 by_cases hq:q = j
 ·subst hq
  rcases hj with h0 | h0
  ·omega
  ·by_cases hp:p = q - 1
   ·subst hp;exact h0
   ·exact Int.le_trans (h p (q - 1) (by omega) (by omega) (by omega)) h0
 ·exact h p q hpq hqi hq
end Go.Ab
end
section
set_option linter.unusedVariables false
set_option linter.unusedSimpArgs false
namespace Go.Ab
def cmpL:List Int→List Int→Int
 | [],[] => 0
 | [],_ :: _ => -1
 | _ :: _,[] => 1
 | a :: x,b :: y => if a < b then -1 else if b < a then 1 else cmpL x y
def ltL (x y:List Int):Prop:=cmpL x y < 0
instance (x y:List Int):Decidable (ltL x y):=by unfold ltL;infer_instance
end Go.Ab
end
section
set_option linter.unusedVariables false
set_option linter.unusedSimpArgs false
namespace Go.Ab
noncomputable def vRaw (F:Funs) (al:Nat→Bool) (id:Nat) (f:AV) (args:List AV) (g:G):Option (AV × G):=vCall (callS F) al id .raw f args g
theorem o_raw {F:Funs} {al lo id e g} (f:Opd) (asx:List Opd):opE (callS F) al lo id (.call .raw f asx) e g = vRaw F al id (f.ev e) (asx.map (·.ev e)) g:=rfl
theorem vRaw_fn {F:Funs} {al id fid fst caps args g}:vRaw F al id (.fn fid fst caps) args g = callS F fid (fst ++ args ++ caps) g:=rfl
noncomputable def vSee (F:Funs) (al:Nat→Bool) (id:Nat) (f:AV) (args:List AV) (g:G):Option (AV × G):=vCall (callS F) al id .see f args g
theorem o_see {F:Funs} {al lo id e g} (f:Opd) (asx:List Opd):opE (callS F) al lo id (.call .see f asx) e g = vSee F al id (f.ev e) (asx.map (·.ev e)) g:=rfl
theorem vSee_fn {F:Funs} {al id fid fst caps args g}:vSee F al id (.fn fid fst caps) args g = seeR g (callS F fid (fst ++ args ++ caps) g):=rfl
theorem bindO_call {F:Funs} {d b j dst os e K fid asx g} (P:AV→G→Prop) (h:∃ v g',callS F fid asx g = some (v,g')∧P v g') (hk:∀ v g',P v g'→WR F d b j os (put e dst v) g' K):bindO F d b j dst os e K (callS F fid asx g):=by
 obtain ⟨v,g',h1,h2⟩:=h
 rw[h1]
 exact hk v g' h2
def retP (rs:List ARes) (P:AV→G→Prop):Out→Env→G→Prop
 | .ext _,_,_ => False
 | _,e,g => ∃ v,resE rs e g = some v∧P v g
theorem retP_nrm {rs P e g}:retP rs P .nrm e g = (∃ v,resE rs e g = some v∧P v g):=rfl
theorem retP_ret {rs P e g}:retP rs P .ret e g = (∃ v,resE rs e g = some v∧P v g):=rfl
theorem raw_of {F:Funs} {f:Nat} {fn:AFun} {asx:List AV} {g:G} {P:AV→G→Prop} (hF:F f = some fn) (h:W F fn.body (argEnv asx) g (retP fn.res P)) (ha:arB fn asx = true:=by rfl):∃ v g',callS F f asx g = some (v,g')∧P v g':=by
 obtain ⟨o,e,g',h1,h2⟩:=h
 rw[callS_eq,hF]
 simp only[ha,h1]
 cases o with
 | ext n => exact h2.elim
 | nrm =>
   obtain ⟨v,h3,h4⟩:=h2
   exact ⟨v,g',by simp only[h3,Option.map_some],h4⟩
 | ret =>
   obtain ⟨v,h3,h4⟩:=h2
   exact ⟨v,g',by simp only[h3,Option.map_some],h4⟩
theorem res_0 (e g):resE [] e g = some (.tup []):=rfl
def mgS (k:ByteArray) (g:G):Option Blk→Option (AV × G)
 | some (.map es) => vMap g (mlook es k)
 | _ => none
theorem o_mget {c:CS} {al:Nat→Bool} {lo id:Nat} {e:Env} {g:G} (m k):opE c al lo id (.mget m k) e g = vMget al (m.ev e) (k.ev e) g:=rfl
theorem vMget_S {al:Nat→Bool} {g:G} (b k):vMget al (.mm b) (.s k) g = mgS k g (selB (al b) (g.hp b)):=by
 simp only[vMget,rd_S]
 cases selB (al b) (g.hp b) with
 | none => rfl
 | some bl => cases bl<;>rfl
theorem mgS_map (k g es):mgS k g (some (.map es)) = vMap g (mlook es k):=rfl
theorem o_mkmap {c:CS} {al:Nat→Bool} {lo id:Nat} {e:Env} {g:G}:opE c al lo id .mkmap e g = some (.mm id,⟨upd g.hp id (some (.map [])),g.nx⟩):=rfl
theorem o_mput {c:CS} {al:Nat→Bool} {lo id:Nat} {e:Env} {g:G} (m k v):opE c al lo id (.mput m k v) e g = vMput al (m.ev e) (k.ev e) (v.ev e) g:=rfl
def mpO (b:Nat) (k:ByteArray) (v:AV) (es:List (AV × AV)) (g:G) (x:Bool):Option AV→Option (AV × G)
 | none => if x then some (.undef,⟨upd g.hp b (some (.map (es ++ [(.s k,v)]))),g.nx⟩) else none
 | some _ => none
def mpS (b:Nat) (k:ByteArray) (v:AV) (g:G) (x:Bool):Option Blk→Option (AV × G)
 | some (.map es) => mpO b k v es g x (mlook es k)
 | _ => none
theorem vMput_S {al:Nat→Bool} {g:G} (b k v):vMput al (.mm b) (.s k) v g = mpS b k v g (one v) (selB (al b) (g.hp b)):=by
 simp only[vMput,rd_S]
 cases selB (al b) (g.hp b) with
 | none => rfl
 | some bl =>
   cases bl with
   | map es => simp only[mpS];cases mlook es k<;>rfl
   | cells _ _ => rfl
   | tok _ => rfl
theorem mpS_map (b k v g x es):mpS b k v g x (some (.map es)) = mpO b k v es g x (mlook es k):=rfl
theorem mpO_none (b k v es g):mpO b k v es g true none = some (.undef,⟨upd g.hp b (some (.map (es ++ [(.s k,v)]))),g.nx⟩):=rfl
theorem frz_d_agg {hp cs ds} (h:frzL hp 8 cs = some ds):frz hp depth (.agg cs) = some (.agg ds):=by
 show frz hp (8 + 1) _ = _
 simp only[frz,h,Option.map_some]
end Go.Ab
end
section
set_option linter.unusedVariables false
set_option linter.unusedSimpArgs false
namespace Go.Ab
abbrev Rw:=Nat→BitVec 64
def U (x:BitVec 64):AV:=.i .u64 (x.toNat:Int)
def rowsC (R:Rw):List AV:=(List.range 40).map fun a => U (R a)
def relC (n:Nat) (R:Rw):List AV:=.i .i64 n :: rowsC R
theorem rowsC_len (R:Rw):(rowsC R).length = 40:=by simp[rowsC]
theorem rowsC_get {R:Rw} {a:Nat} (h:a < 40):(rowsC R)[a]? = some (U (R a)):=by
 simp[rowsC,h]
def bit (b:Nat):BitVec 64:=1#64 <<< b
theorem u64_wrap {x:Nat} (h:x < 2 ^ 64):IntKind.u64.wrap (x:Int) = x:=by
 simp[IntKind.wrap,IntKind.bits,IntKind.signed,IntKind.min,IntKind.max]
 omega
end Go.Ab
end
section
set_option linter.unusedVariables false
set_option linter.unusedSimpArgs false
namespace Go.Ab
variable {F:Funs}
def has (n:Nat) (R:Rw) (a b:Int):Bool:=decide (0≤a∧a < n∧0≤b∧b < n) && (R a.toNat).getLsbD b.toNat
end Go.Ab
end
section
set_option linter.unusedVariables false
set_option linter.unusedSimpArgs false
namespace Go.Ab
variable {F:Funs}
theorem i64_wrap {x:Int} (h:-9223372036854775808≤x) (h2:x≤9223372036854775807):IntKind.i64.wrap x = x:=by
 simp[IntKind.wrap,IntKind.bits,IntKind.signed,IntKind.min,IntKind.max]
 omega
end Go.Ab
end
section
set_option linter.unusedVariables false
set_option linter.unusedSimpArgs false
namespace Go.Ab
variable {F:Funs}
theorem succ_wrap {k:Nat} (h:k < 9000000000000000000):IntKind.i64.wrap ((k:Int) + 1) = ((k + 1:Nat):Int):=by rw[i64_wrap (by omega) (by omega)];omega
end Go.Ab
end
section
set_option linter.unusedVariables false
set_option linter.unusedSimpArgs false
namespace Go.Ab
variable {F:Funs}
def Live (g:G) (esz:Nat) (t:Tok):Prop:=t = .rig∨∃ τ,t = .own τ esz∧g.hp τ = some (.tok true)∧τ < g.nx
end Go.Ab
end
section
set_option linter.unusedVariables false
set_option linter.unusedSimpArgs false
namespace Go.Ab
def hb (R:Rw) (a b:Nat):Bool:=(R a).getLsbD b
inductive Thru (r:Nat→Nat→Prop) (k:Nat):Nat→Nat→Prop
 | one {a b}:r a b→Thru r k a b
 | join {a c b}:c < k→Thru r k a c→Thru r k c b→Thru r k a b
theorem Thru.mono {r:Nat→Nat→Prop} {k k':Nat} (h:k≤k') {a b:Nat} (t:Thru r k a b):Thru r k' a b:=by
 induction t with
 | one h => exact .one h
 | join hc _ _ ih1 ih2 => exact .join (by omega) ih1 ih2
inductive Steps' (r:Nat→Nat→Prop):Nat→Nat→Prop
 | one {a b}:r a b→Steps' r a b
 | join {a c b}:Steps' r a c→Steps' r c b→Steps' r a b
end Go.Ab
end
section
set_option linter.unusedVariables false
set_option linter.unusedSimpArgs false
namespace Go.Ab
variable {F:Funs}
theorem t1_neg (u n:Int) (e1:u % n + n * (u / n) = u):-u = (n - u % n) + n * (-(u / n) - 1):=by
 have e2:n * (-(u / n) - 1) = -(n * (u / n)) - n:=by rw[Int.mul_sub,Int.mul_neg,Int.mul_one]
 rw[e2]
 generalize n * (u / n) = c at *
 generalize u % n = b at *
 omega
theorem tmod_cases {v n:Int} (hn:0 < n):(if v.tmod n < 0 then v.tmod n + n else v.tmod n) = v % n:=by
 have h2:=Int.emod_nonneg v (by omega:n≠0)
 have h3:=Int.emod_lt_of_pos v hn
 by_cases hv:0≤v
 ·rw[Int.tmod_eq_emod_of_nonneg hv,if_neg (by omega)]
 ·obtain ⟨u,rfl⟩:∃ u,v = -u:=⟨-v,by omega⟩
  rw[Int.neg_tmod,Int.tmod_eq_emod_of_nonneg (by omega:0≤u)]
  have h4:=Int.emod_nonneg u (by omega:n≠0)
  have h5:=Int.emod_lt_of_pos u hn
  have e1:=Int.emod_add_mul_ediv u n
  by_cases h6:u % n = 0
  ·rw[h6,Int.neg_zero,if_neg (by omega)]
   exact (Int.emod_eq_zero_of_dvd (Int.dvd_neg.2 (Int.dvd_of_emod_eq_zero h6))).symm
  ·rw[if_pos (by omega)]
   have e3:(-u) % n = n - u % n:=by
    rw[t1_neg u n e1,Int.add_mul_emod_self_left,Int.emod_eq_of_lt (by omega) (by omega)]
   rw[e3]
   omega
theorem tmod_bound {v n:Int} (hn:0 < n):-n≤v.tmod n∧v.tmod n < n:=by
 refine ⟨?_,Int.tmod_lt_of_pos v hn⟩
 have h1:=tmod_cases (v:=v) hn
 have h2:=Int.emod_nonneg v (by omega:n≠0)
 split at h1<;>omega
def place (v n:Int):Int:=v % n
theorem place_lt {v n:Int} (hn:0 < n):0≤place v n∧place v n < n:=⟨Int.emod_nonneg v (by omega),Int.emod_lt_of_pos v hn⟩
theorem sp_place (h10:F 10 = some A_xlaw00_Place) {v n:Int} (hn:0 < n) (hb:n≤4611686018427387904):pureS F 10 [.i .i64 v,.i .i64 n] = some (.i .i64 (place v n)):=by
 refine pure_of h10 ?_
 have h1:=tmod_cases (v:=v) hn
 obtain ⟨h2,h3⟩:=tmod_bound (v:=v) hn
 unfold place
 by_cases h:v.tmod n < 0
 ·have hw:IntKind.i64.wrap (v.tmod n + n) = v.tmod n + n:=i64_wrap (by omega) (by omega)
  rw[if_pos h] at h1
  simp (disch:=omega) only[A_xlaw00_Place,wp,qa,qb,qc,b_rem,h,hw]
  rw[h1]
 ·rw[if_neg h] at h1
  simp (disch:=omega) only[A_xlaw00_Place,wp,qa,qb,qc,b_rem,h]
  rw[h1]
end Go.Ab
end
section
set_option linter.unusedVariables false
set_option linter.unusedSimpArgs false
namespace Go.Ab
variable {F:Funs}
theorem ints_part {l:List Int} {k:Nat} (h:k < l.length):part ((intsC l).drop (k * 1)) 0 none = some (.i .i64 (l.getD k 0)):=by
 simp only[part,intsC,List.getElem?_drop,Nat.mul_one,Nat.add_zero,List.getElem?_map,List.getElem?_eq_getElem h,Option.map_some,List.getD_eq_getElem?_getD,Option.getD_some]
theorem Steps'.mono {r s:Nat→Nat→Prop} (h:∀ a b,r a b→s a b) {a b:Nat} (t:Steps' r a b):Steps' s a b:=by
 induction t with
 | one h' => exact .one (h _ _ h')
 | join _ _ i1 i2 => exact .join i1 i2
theorem Steps'.first {r:Nat→Nat→Prop} {a b:Nat} (t:Steps' r a b):r a b∨∃ c,r a c∧Steps' r c b:=by
 induction t with
 | one h => exact .inl h
 | @join a c b t1 t2 i1 i2 =>
   rcases i1 with h | ⟨d,h1,h2⟩
   ·exact .inr ⟨c,h,t2⟩
   ·exact .inr ⟨d,h1,.join h2 t2⟩
end Go.Ab
end
section
set_option linter.unusedVariables false
set_option linter.unusedSimpArgs false
namespace Go.Ab
variable {F:Funs}
theorem sp_isnan (h:F 266 = some A_cmp_isNaN_int) (a:Int):pureS F 266 [.i .i64 a] = some (.b false):=by
 refine pure_of h ?_
 simp (disch:=omega) only[A_cmp_isNaN_int,wp,qa,qb,qc,bne_self_eq_false]
end Go.Ab
end
section
set_option linter.unusedVariables false
set_option linter.unusedSimpArgs false
namespace Go.Ab
structure Ev where
 th:Int
 kd:Int
 md:Int
 lc:Int
 vl:Int
 ex:Bool
structure Gr where
 locs:Int
 evs:List Ev
 rf:List Int
 co:List (List Int)
 rmw:List (Int × Int)
 data:List (Int × Int)
 ctrl:List (Int × Int)
 ctrli:List (Int × Int)
def ev0:Ev:=⟨0,0,0,0,0,false⟩
def evC (e:Ev):List AV:=[.i .i64 e.th,.i .i64 e.kd,.i .i64 e.md,.i .i64 e.lc,.i .i64 e.vl,.b e.ex]
def evsC (l:List Ev):List AV:=l.flatMap evC
def coC (l:List (List Int)):List AV:=l.map fun c => .sl (intsC c) c.length .non
def grC (g:Gr):List AV:=[.i .i64 g.locs,.sl (evsC g.evs) g.evs.length .non,.sl (intsC g.rf) g.rf.length .non,.sl (coC g.co) g.co.length .non,
 .sl (pairsC g.rmw) g.rmw.length .non,.sl (pairsC g.data) g.data.length .non,.sl (pairsC g.ctrl) g.ctrl.length .non,.sl (pairsC g.ctrli) g.ctrli.length .non]
theorem evsC_len (l:List Ev):(evsC l).length = l.length * 6:=by
 induction l with
 | nil => rfl
 | cons p l ih => simp only[evsC,List.flatMap_cons,List.length_append,List.length_cons,evC,List.length_nil] at ih ⊢;omega
theorem coC_len (l:List (List Int)):(coC l).length = l.length:=by simp[coC]
theorem splice_ev (e:Ev):splice (List.replicate 5 (AV.i .i64 0) ++ [.b false]) 0 (evC e) = evC e:=rfl
theorem part_22 (a b:AV):part [a,b] 0 (some 2) = some (.agg [a,b]):=rfl
theorem evC_len (e:Ev):(evC e).length = 6:=rfl
theorem evC_one (e:Ev):(evC e).all one = true:=rfl
theorem evC_flat (e:Ev):(evC e).all flat = true:=rfl
theorem evC_all (e:Ev):part (evC e) 0 (some 6) = some (.agg (evC e)):=rfl
theorem ev_th (e:Ev):part (evC e) 0 none = some (.i .i64 e.th):=rfl
theorem ev_kd (e:Ev):part (evC e) 1 none = some (.i .i64 e.kd):=rfl
theorem ev_md (e:Ev):part (evC e) 2 none = some (.i .i64 e.md):=rfl
theorem ev_lc (e:Ev):part (evC e) 3 none = some (.i .i64 e.lc):=rfl
theorem ev_vl (e:Ev):part (evC e) 4 none = some (.i .i64 e.vl):=rfl
theorem ev_ex (e:Ev):part (evC e) 5 none = some (.b e.ex):=rfl
theorem grC_len (g:Gr):(grC g).length = 8:=rfl
theorem grC_one (g:Gr):(grC g).all one = true:=rfl
theorem grC_all (g:Gr):part (grC g) 0 (some 8) = some (.agg (grC g)):=rfl
theorem gr_locs (g:Gr):part (grC g) 0 none = some (.i .i64 g.locs):=rfl
theorem gr_evs (g:Gr):part (grC g) 1 none = some (.sl (evsC g.evs) g.evs.length .non):=rfl
theorem gr_rf (g:Gr):part (grC g) 2 none = some (.sl (intsC g.rf) g.rf.length .non):=rfl
theorem gr_co (g:Gr):part (grC g) 3 none = some (.sl (coC g.co) g.co.length .non):=rfl
theorem gr_rmw (g:Gr):part (grC g) 4 none = some (.sl (pairsC g.rmw) g.rmw.length .non):=rfl
theorem gr_data (g:Gr):part (grC g) 5 none = some (.sl (pairsC g.data) g.data.length .non):=rfl
theorem gr_ctrl (g:Gr):part (grC g) 6 none = some (.sl (pairsC g.ctrl) g.ctrl.length .non):=rfl
theorem gr_ctrli (g:Gr):part (grC g) 7 none = some (.sl (pairsC g.ctrli) g.ctrli.length .non):=rfl
theorem frz_gr (hp) (g:Gr):frz hp depth (.agg (grC g)) = some (.agg (grC g)):=by
 refine frz_d_agg ?_
 show frzL hp (7 + 1) _ = _
 simp only[grC,frzL,frz]
theorem frz_ev (hp) (e:Ev):frz hp depth (.agg (evC e)) = some (.agg (evC e)):=frz_d_agg (frzL_flat (d:=7) (evC_flat e))
theorem vis_gr (hp) (g:Gr):vis hp depth (.agg (grC g)) = []:=by
 show vis hp (8 + 1) _ = _
 simp only[vis,grC,List.flatMap_cons,List.flatMap_nil,List.nil_append,List.append_nil]
theorem vis_ev (hp) (e:Ev):vis hp depth (.agg (evC e)) = []:=by
 show vis hp (8 + 1) _ = _
 simp only[vis,evC,List.flatMap_cons,List.flatMap_nil,List.nil_append,List.append_nil]
theorem gl:type_of% (And.intro (And.intro (And.intro (And.intro (And.intro @evC_len @evC_one) (And.intro @evC_flat (And.intro @evC_all @ev_th))) (And.intro (And.intro @ev_kd (And.intro @ev_md @ev_lc)) (And.intro @ev_vl (And.intro @ev_ex @grC_len)))) (And.intro (And.intro (And.intro @grC_one @grC_all) (And.intro @gr_locs (And.intro @gr_evs @gr_rf))) (And.intro (And.intro @gr_co (And.intro @gr_rmw @gr_data)) (And.intro @gr_ctrl (And.intro @gr_ctrli @frz_gr))))) (And.intro (And.intro (And.intro (And.intro @frz_ev @vis_gr) (And.intro @vis_ev (And.intro @splice_ev @evsC_len))) (And.intro (And.intro @coC_len (And.intro @o_raw @vRaw_fn)) (And.intro @o_see (And.intro @vSee_fn @res_0)))) (And.intro (And.intro (And.intro @retP_nrm @retP_ret) (And.intro @o_mget (And.intro @vMget_S @mgS_map))) (And.intro (And.intro @o_mkmap (And.intro @o_mput @vMput_S)) (And.intro @mpS_map (And.intro @mpO_none @part_22)))))):=(And.intro (And.intro (And.intro (And.intro (And.intro @evC_len @evC_one) (And.intro @evC_flat (And.intro @evC_all @ev_th))) (And.intro (And.intro @ev_kd (And.intro @ev_md @ev_lc)) (And.intro @ev_vl (And.intro @ev_ex @grC_len)))) (And.intro (And.intro (And.intro @grC_one @grC_all) (And.intro @gr_locs (And.intro @gr_evs @gr_rf))) (And.intro (And.intro @gr_co (And.intro @gr_rmw @gr_data)) (And.intro @gr_ctrl (And.intro @gr_ctrli @frz_gr))))) (And.intro (And.intro (And.intro (And.intro @frz_ev @vis_gr) (And.intro @vis_ev (And.intro @splice_ev @evsC_len))) (And.intro (And.intro @coC_len (And.intro @o_raw @vRaw_fn)) (And.intro @o_see (And.intro @vSee_fn @res_0)))) (And.intro (And.intro (And.intro @retP_nrm @retP_ret) (And.intro @o_mget (And.intro @vMget_S @mgS_map))) (And.intro (And.intro @o_mkmap (And.intro @o_mput @vMput_S)) (And.intro @mpS_map (And.intro @mpO_none @part_22))))))
end Go.Ab
end
section
set_option linter.unusedVariables false
set_option linter.unusedSimpArgs false
namespace Go.Ab
variable {F:Funs}
structure EcoSt (X:Gr) (l:List (Int × Int)) (g:G):Prop where
 gr:g.hp 0 = some (.cells (grC X) false)
 put:∃ t,g.hp 2 = some (.cells [.sl (pairsC l) l.length t] false)∧Live g 2 t
 f4:g.hp 4 = some (.cells [.fn 92 [] [.mp 2 0]] false)
 f7:g.hp 7 = some (.cells [.fn 93 [] [.mp 0 0,.mp 4 0]] false)
 m9:g.hp 9 = some (.map [(.s ⟨#[114,102]⟩,.fn 94 [] [.mp 4 0]),(.s ⟨#[99,111]⟩,.fn 95 [] [.mp 7 0]),(.s ⟨#[102,114]⟩,.fn 96 [] [.mp 7 0])])
 nx:9 < g.nx
def Kept (g g':G):Prop:=g.nx≤g'.nx∧∀ i,9 < i→i < g.nx→CM (g.hp i)→g'.hp i = g.hp i
theorem Kept.refl (g:G):Kept g g:=⟨Nat.le_refl _,fun _ _ _ _ => rfl⟩
theorem Kept.trans {g g1 g2:G} (h:Kept g g1) (k:Kept g1 g2):Kept g g2:=⟨Nat.le_trans h.1 k.1,fun i h1 h2 h3 => by
 have e:=h.2 i h1 h2 h3
 rw[←e]
 exact k.2 i h1 (Nat.lt_of_lt_of_le h2 h.1) (by rw[e];exact h3)⟩
theorem EcoSt.same {X:Gr} {l:List (Int × Int)} {g g':G} (h:EcoSt X l g) (k:Kept g g') (h9:∀ i,i≤9→g'.hp i = g.hp i) (ht:∀ i b,g.hp i = some (.tok b)→g'.hp i = g.hp i):EcoSt X l g':=by
 obtain ⟨t,h1,h2⟩:=h.put
 refine ⟨by rw[h9 0 (by omega)];exact h.gr,⟨t,by rw[h9 2 (by omega)];exact h1,?_⟩,by rw[h9 4 (by omega)];exact h.f4,by rw[h9 7 (by omega)];exact h.f7,by rw[h9 9 (by omega)];exact h.m9,Nat.lt_of_lt_of_le h.nx k.1⟩
 rcases h2 with rfl | ⟨τ,rfl,hτ,hlt⟩
 ·exact .inl rfl
 ·exact .inr ⟨τ,rfl,by rw[ht τ _ hτ];exact hτ,Nat.lt_of_lt_of_le hlt k.1⟩
end Go.Ab
end
section
set_option linter.unusedVariables false
set_option linter.unusedSimpArgs false
namespace Go.Ab
variable {F:Funs}
theorem EcoSt.on {X:Gr} {l:List (Int × Int)} {g:G} (h:EcoSt X l g) {n:Nat} (hn:g.nx≤n):EcoSt X l ⟨g.hp,n⟩:=
 h.same ⟨hn,fun _ _ _ _ => rfl⟩ (fun _ _ => rfl) (fun _ _ _ => rfl)
theorem Kept.on {g g':G} (h:Kept g g') {n:Nat} (hn:g'.nx≤n):Kept g ⟨g'.hp,n⟩:=⟨Nat.le_trans h.1 hn,h.2⟩
theorem Kept.from {g g':G} {n:Nat} (hn:g.nx≤n) (h:Kept ⟨g.hp,n⟩ g'):Kept g g':=⟨Nat.le_trans hn h.1,fun i h1 h2 h3 => h.2 i h1 (Nat.lt_of_lt_of_le h2 hn) h3⟩
end Go.Ab
end
section
set_option linter.unusedVariables false
set_option linter.unusedSimpArgs false
namespace Go.Ab
variable {F:Funs}
theorem EcoSt.grow {X:Gr} {l:List (Int × Int)} {g g':G} (h:EcoSt X l g) (hn:g.nx≤g'.nx) (ho:∀ i,i < g.nx→g'.hp i = g.hp i):EcoSt X l g'∧Kept g g':=by
 have h9:=h.nx
 obtain ⟨t,h1,h2⟩:=h.put
 refine ⟨⟨by rw[ho 0 (by omega)];exact h.gr,⟨t,by rw[ho 2 (by omega)];exact h1,?_⟩,by rw[ho 4 (by omega)];exact h.f4,by rw[ho 7 (by omega)];exact h.f7,by rw[ho 9 (by omega)];exact h.m9,by omega⟩,hn,fun i _ hi _ => ho i hi⟩
 rcases h2 with rfl | ⟨τ,rfl,hτ,hlt⟩
 ·exact .inl rfl
 ·exact .inr ⟨τ,rfl,by rw[ho τ hlt];exact hτ,by omega⟩
end Go.Ab
end
section
set_option linter.unusedVariables false
set_option linter.unusedSimpArgs false
namespace Go.Ab
variable {F:Funs}
def Few (X:Gr):Prop:=X.evs.length≤60∧X.co.length≤6∧∀ c∈X.co,c.length≤60
end Go.Ab
end
section
set_option linter.unusedVariables false
set_option linter.unusedSimpArgs false
namespace Go.Ab
variable {F:Funs}
def resC (agg:Option Nat) (g:G):AV→Option AV
 | .mp b off => match g.hp b with
   | some (.cells cs _) => part cs off agg
   | _ => none
 | _ => none
theorem res_cell (n agg e g):resE [.cell n agg] e g = resC agg g (e n):=by
 simp only[resE,resAll,resOne,resC]
 cases e n<;>try rfl
 rename_i b off
 simp only
 cases g.hp b with
 | none => rfl
 | some bl =>
   cases bl with
   | cells cs ro => simp only;cases part cs off agg<;>rfl
   | map _ => rfl
   | tok _ => rfl
end Go.Ab
end
section
set_option linter.unusedVariables false
set_option linter.unusedSimpArgs false
namespace Go.Ab
variable {F:Funs}
theorem q_nat {x y:Int} (hx:0≤x) (hm:x≤9223372036854775807) (hy:0 < y):abin .quo (.i .i64 x) (.i .i64 y) = some (.i .i64 (x / y)):=by
 rw[b_quo (by omega),Int.tdiv_eq_ediv_of_nonneg hx]
 have h1:=Int.ediv_nonneg hx (by omega:0≤y)
 have h2:=Int.ediv_le_self y hx
 rw[i64_wrap (by omega) (by omega)]
theorem r_nat {x y:Int} (hx:0≤x) (hy:0 < y):abin .rem (.i .i64 x) (.i .i64 y) = some (.i .i64 (x % y)):=by
 rw[b_rem (by omega),Int.tmod_eq_emod_of_nonneg hx]
theorem o_idx {c:CS} {al:Nat→Bool} {lo id:Nat} {e:Env} {g:G} (len esz agg x i):opE c al lo id (.idx len esz agg x i) e g = vIdx len esz agg (x.ev e) (i.ev e) g:=rfl
theorem part_ag2 (a b:AV):part [a,b] 0 (some 2) = some (.agg [a,b]):=rfl
theorem part_ag7 (a b c d e f x:AV):part [a,b,c,d,e,f,x] 0 (some 7) = some (.agg [a,b,c,d,e,f,x]):=rfl
theorem frz_ag2 (hp:Nat→Option Blk) (x y:Int):frz hp depth (.agg [.i .i64 x,.i .i64 y]) = some (.agg [.i .i64 x,.i .i64 y]):=by
 refine frz_d_agg ?_
 show frzL _ (7 + 1) _ = _
 simp only[frzL,frz]
theorem frz_ag7 (hp:Nat→Option Blk) (a b c d e f:Int) (cs:List AV) (n:Nat) (t:Tok):frz hp depth (.agg [.i .i64 a,.i .i64 b,.i .i64 c,.i .i64 d,.i .i64 e,.sl cs n t,.i .i64 f]) = some (.agg [.i .i64 a,.i .i64 b,.i .i64 c,.i .i64 d,.i .i64 e,.sl cs n .non,.i .i64 f]):=by
 refine frz_d_agg ?_
 show frzL _ (7 + 1) _ = _
 simp only[frzL,frz]
def tkC (e:List (Int × Int)):List AV:=e.flatMap fun p => [.i .i64 p.1,.i .i64 p.2]
def exV (e:List (Int × Int)):AV:=.sl (tkC e) e.length .non
theorem tkC_len (e:List (Int × Int)):(tkC e).length = e.length * 2:=by
 induction e with
 | nil => rfl
 | cons p e ih => simp only[tkC,List.flatMap_cons,List.length_append,List.length_cons,List.length_nil] at ih ⊢;omega
structure Ins where
 kd:Int
 md:Int
 md2:Int
 rg:Int
 lc:Int
 ex:List (Int × Int)
 n:Int
def insC (x:Ins):List AV:=[.i .i64 x.kd,.i .i64 x.md,.i .i64 x.md2,.i .i64 x.rg,.i .i64 x.lc,exV x.ex,.i .i64 x.n]
def exM (a b m:Int):List (Int × Int):=
 if m≤2 then [(1,b)] else if m≤5 then [(2,a)] else if m = 6 then [(2,a),(2,a),(3,4)] else if m = 7 then [(2,a),(1,b),(3,5)] else if m = 8 then [(2,a),(1,b),(3,6)] else [(1,b),(1,1),(3,3)]
def exN (v:Int):List (Int × Int):=exM (place v 1073741824 / 10 % 3) (place v 1073741824 / 30 % 3) (place v 1073741824 % 10)
theorem sp_num (h:F 108 = some A_xlaw00_num) (v:Int):pureS F 108 [.i .i64 v] = some (.agg [.i .i64 1,.i .i64 v]):=by
 refine pure_of h ?_
 simp (disch:=omega) only[A_xlaw00_num,wp,qa,qb,qc,res_cell,resC,part_ag2,frz_ag2]
theorem sp_reg (h:F 123 = some A_xlaw00_reg) (v:Int):pureS F 123 [.i .i64 v] = some (.agg [.i .i64 2,.i .i64 v]):=by
 refine pure_of h ?_
 simp (disch:=omega) only[A_xlaw00_reg,wp,qa,qb,qc,res_cell,resC,part_ag2,frz_ag2]
theorem sp_op (h:F 124 = some A_xlaw00_op) (v:Int):pureS F 124 [.i .i64 v] = some (.agg [.i .i64 3,.i .i64 v]):=by
 refine pure_of h ?_
 simp (disch:=omega) only[A_xlaw00_op,wp,qa,qb,qc,res_cell,resC,part_ag2,frz_ag2]
structure ProgF (F:Funs):Prop where
 place:F 10 = some A_xlaw00_Place
 num:F 108 = some A_xlaw00_num
 reg:F 123 = some A_xlaw00_reg
 op:F 124 = some A_xlaw00_op
 expr:F 107 = some A_xlaw00_Expr
 instr:F 97 = some A_xlaw00_Instr
theorem sp_expr (S:ProgF F) (v:Int):pureS F 107 [.i .i64 v] = some (exV (exN v)):=by
 refine pure_of S.expr ?_
 have hp:=sp_place S.place (v:=v) (n:=1073741824) (by omega) (by omega)
 obtain ⟨p0,p1⟩:=place_lt (v:=v) (n:=1073741824) (by omega)
 unfold exN
 generalize place v 1073741824 = k at hp p0 p1
 have q1:=q_nat (x:=k) (y:=10) p0 (by omega) (by omega)
 have r1:=r_nat (x:=k / 10) (y:=3) (by omega) (by omega)
 have q2:=q_nat (x:=k) (y:=30) p0 (by omega) (by omega)
 have r2:=r_nat (x:=k / 30) (y:=3) (by omega) (by omega)
 have r3:=r_nat (x:=k) (y:=10) p0 (by omega)
 have hm:0≤k % 10∧k % 10 < 10:=by omega
 generalize k % 10 = m at r3 hm
 generalize k / 10 % 3 = a at r1
 generalize k / 30 % 3 = b at r2
 have n1:=sp_num S.num b
 have n2:=sp_reg S.reg a
 have n3:=sp_num S.num 1
 have n4:=sp_op S.op
 have r4:∀ x:AV,List.replicate 4 x = [x,x,x,x]:=fun _ => rfl
 have r6:∀ x:AV,List.replicate 6 x = [x,x,x,x,x,x]:=fun _ => rfl
 have hc:m = 0∨m = 1∨m = 2∨m = 3∨m = 4∨m = 5∨m = 6∨m = 7∨m = 8∨m = 9:=by omega
 rcases hc with rfl | rfl | rfl | rfl | rfl | rfl | rfl | rfl | rfl | rfl
 all_goals
  simp (disch:=omega) only[A_xlaw00_Expr,wp,qa,qb,qc,hp,q1,r1,q2,r2,r3,n1,n2,n3,n4,r4,r6,part_ag2,Int.reduceBEq,splice,List.take_succ_cons,List.take_zero,List.drop_succ_cons,List.drop_zero]
  try rfl
def acqM (w:Int):Int:=if w / 7 % 3 = 2 then 1 else 0
def relM (w:Int):Int:=if w / 11 % 3 = 2 then 2 else 0
def insT (t w left:Int):Ins:=
 if t < 6 then ⟨1,acqM w,0,w % 3,w / 3 % 2,[],0⟩
 else if t < 12 then ⟨2,relM w,0,0,w / 3 % 2,exN (w / 12),0⟩
 else if t < 15 then ⟨3,1 + w / 5 % 4,0,0,0,[],0⟩
 else if t < 16 then ⟨4,acqM w,relM w,w % 3,w / 3 % 2,[(1,w / 17 % 2)],0⟩
 else if t < 18 then ⟨5,0,0,w % 3,0,exN (w / 12),0⟩
 else ⟨6,0,0,0,0,exN (w / 12),w / 19 % (left + 1)⟩
def insN (v left:Int):Ins:=insT (place v 1099511627776 % 20) (place v 1099511627776 / 20) left
theorem pick3 {g:G} {a z:Int} (h0:0≤z) (h1:z < 3):vIdx 3 1 none (.agg [.i .i64 0,.i .i64 0,.i .i64 a]) (.i .i64 z) g = some (.i .i64 (if z = 2 then a else 0),g):=by
 have hc:z = 0∨z = 1∨z = 2:=by omega
 rcases hc with rfl | rfl | rfl<;>rfl
theorem sp_instr (S:ProgF F) {v left:Int} (h0:0≤left) (h1:left≤1000):pureS F 97 [.i .i64 v,.i .i64 2,.i .i64 left] = some (.agg (insC (insN v left))):=by
 refine pure_of S.instr ?_
 have hp:=sp_place S.place (v:=v) (n:=1099511627776) (by omega) (by omega)
 obtain ⟨p0,p1⟩:=place_lt (v:=v) (n:=1099511627776) (by omega)
 unfold insN
 generalize place v 1099511627776 = k at hp p0 p1
 have q1:=q_nat (x:=k) (y:=20) p0 (by omega) (by omega)
 have r0:=r_nat (x:=k) (y:=20) p0 (by omega)
 have w0:0≤k / 20∧k / 20 < 1099511627776:=by omega
 have t0:0≤k % 20∧k % 20 < 20:=by omega
 generalize k / 20 = w at q1 w0
 generalize k % 20 = t at r0 t0
 have r1:=r_nat (x:=w) (y:=3) w0.1 (by omega)
 have q2:=q_nat (x:=w) (y:=3) w0.1 (by omega) (by omega)
 have r2:=r_nat (x:=w / 3) (y:=2) (by omega) (by omega)
 have q3:=q_nat (x:=w) (y:=12) w0.1 (by omega) (by omega)
 have q4:=q_nat (x:=w) (y:=7) w0.1 (by omega) (by omega)
 have r4:=r_nat (x:=w / 7) (y:=3) (by omega) (by omega)
 have q5:=q_nat (x:=w) (y:=11) w0.1 (by omega) (by omega)
 have r5:=r_nat (x:=w / 11) (y:=3) (by omega) (by omega)
 have q6:=q_nat (x:=w) (y:=5) w0.1 (by omega) (by omega)
 have r6:=r_nat (x:=w / 5) (y:=4) (by omega) (by omega)
 have q7:=q_nat (x:=w) (y:=17) w0.1 (by omega) (by omega)
 have r7:=r_nat (x:=w / 17) (y:=2) (by omega) (by omega)
 have q8:=q_nat (x:=w) (y:=19) w0.1 (by omega) (by omega)
 have w1:IntKind.i64.wrap (left + 1) = left + 1:=i64_wrap (by omega) (by omega)
 have r8:=r_nat (x:=w / 19) (y:=left + 1) (by omega) (by omega)
 have w2:IntKind.i64.wrap (1 + w / 5 % 4) = 1 + w / 5 % 4:=i64_wrap (by omega) (by omega)
 have he:=sp_expr S (w / 12)
 have hn:=sp_num S.num (w / 17 % 2)
 have i1:∀ g,vIdx 3 1 none (.agg [.i .i64 0,.i .i64 0,.i .i64 1]) (.i .i64 (w / 7 % 3)) g = some (.i .i64 (acqM w),g):=fun g => pick3 (by omega) (by omega)
 have i2:∀ g,vIdx 3 1 none (.agg [.i .i64 0,.i .i64 0,.i .i64 2]) (.i .i64 (w / 11 % 3)) g = some (.i .i64 (relM w),g):=fun g => pick3 (by omega) (by omega)
 have l5:∀ x:AV,List.replicate 5 x = [x,x,x,x,x]:=fun _ => rfl
 have s7:∀ a b c d e f x1 x2 x3 x4 x5 x6 x7 y:AV,splice [a,b,c,d,e,f,y] 0 [x1,x2,x3,x4,x5,x6,x7] = [x1,x2,x3,x4,x5,x6,x7]:=fun _ _ _ _ _ _ _ _ _ _ _ _ _ _ => rfl
 unfold exV at he
 by_cases c1:t < 6
 ·simp (disch:=omega) only[A_xlaw00_Instr,wp,qa,qb,qc,res_cell,resC,hp,q1,r0,r1,q2,r2,q3,he,o_idx,q4,r4,i1,q5,r5,i2,l5,s7,c1,part_ag7,frz_ag7]
  unfold insT;rw[if_pos c1];rfl
 by_cases c2:t < 12
 ·simp (disch:=omega) only[A_xlaw00_Instr,wp,qa,qb,qc,res_cell,resC,hp,q1,r0,r1,q2,r2,q3,he,o_idx,q4,r4,i1,q5,r5,i2,l5,s7,c1,c2,part_ag7,frz_ag7]
  unfold insT;rw[if_neg c1,if_pos c2];rfl
 by_cases c3:t < 15
 ·simp (disch:=omega) only[A_xlaw00_Instr,wp,qa,qb,qc,res_cell,resC,hp,q1,r0,r1,q2,r2,q3,he,o_idx,q4,r4,i1,q5,r5,i2,q6,r6,w2,l5,s7,c1,c2,c3,part_ag7,frz_ag7]
  unfold insT;rw[if_neg c1,if_neg c2,if_pos c3];rfl
 by_cases c4:t < 16
 ·simp (disch:=omega) only[A_xlaw00_Instr,wp,qa,qb,qc,res_cell,resC,hp,q1,r0,r1,q2,r2,q3,he,o_idx,q4,r4,i1,q5,r5,i2,q7,r7,hn,l5,s7,c1,c2,c3,c4,part_ag7,frz_ag7]
  unfold insT;rw[if_neg c1,if_neg c2,if_neg c3,if_pos c4];rfl
 by_cases c5:t < 18
 ·simp (disch:=omega) only[A_xlaw00_Instr,wp,qa,qb,qc,res_cell,resC,hp,q1,r0,r1,q2,r2,q3,he,o_idx,q4,r4,i1,q5,r5,i2,l5,s7,c1,c2,c3,c4,c5,part_ag7,frz_ag7]
  unfold insT;rw[if_neg c1,if_neg c2,if_neg c3,if_neg c4,if_pos c5];rfl
 ·simp (disch:=omega) only[A_xlaw00_Instr,wp,qa,qb,qc,res_cell,resC,hp,q1,r0,r1,q2,r2,q3,he,o_idx,q4,r4,i1,q5,r5,i2,q8,w1,r8,l5,s7,c1,c2,c3,c4,c5,part_ag7,frz_ag7]
  unfold insT;rw[if_neg c1,if_neg c2,if_neg c3,if_neg c4,if_neg c5];rfl
end Go.Ab
end
section
set_option linter.unusedVariables false
set_option linter.unusedSimpArgs false
namespace Go.Ab
variable {F:Funs}
def insLC (l:List Ins):List AV:=l.flatMap insC
theorem insC_len (x:Ins):(insC x).length = 7:=rfl
theorem insLC_len (l:List Ins):(insLC l).length = l.length * 7:=by
 induction l with
 | nil => rfl
 | cons x l ih => simp only[insLC,List.flatMap_cons,List.length_append,List.length_cons,insC_len] at ih ⊢;omega
theorem insLC_snoc (l:List Ins) (x:Ins):insLC (l ++ [x]) = insLC l ++ insC x:=by
 simp only[insLC,List.flatMap_append,List.flatMap_cons,List.flatMap_nil,List.append_nil]
theorem insLC_one (l:List Ins):(insLC l).all one = true:=by
 induction l with
 | nil => rfl
 | cons x l ih => simp only[insLC,List.flatMap_cons,List.all_append,Bool.and_eq_true] at ih ⊢;exact ⟨rfl,ih⟩
def fence0:Ins:=⟨3,4,0,0,0,[],0⟩
def skips (l:List Ins):Nat:=l.countP fun x => x.kd == 6
theorem skips_snoc (l:List Ins) (x:Ins):skips (l ++ [x]) = skips l + (if x.kd = 6 then 1 else 0):=by
 unfold skips
 rw[List.countP_append]
 congr 1
 by_cases h:x.kd = 6<;>simp[List.countP_cons,h]
structure PreOk (l:List Int) (T t n:Nat) (pre:List Ins):Prop where
 ins:∀ k,k < pre.length→(∃ v,pre.getD k fence0 = insN v ((n - 1 - k:Nat):Int))∨pre.getD k fence0 = fence0
structure ThrOk (l:List Int) (T t most:Nat) (th:List Ins):Prop where
 most:th.length≤most
 at_:∀ k,k < th.length→t + k * T < l.length
 pre:PreOk l T t th.length th
 sk:skips th≤2
theorem PreOk.snoc {l T t n pre} (h:PreOk l T t n pre) {x:Ins} (hx:(∃ v,x = insN v ((n - 1 - pre.length:Nat):Int))∨x = fence0):PreOk l T t n (pre ++ [x]):=by
 refine ⟨fun k hk => ?_⟩
 rw[List.length_append,List.length_singleton] at hk
 by_cases h1:k < pre.length
 ·have:=h.ins k h1
  rwa [List.getD_eq_getElem?_getD,List.getElem?_append_left h1,←List.getD_eq_getElem?_getD]
 ·obtain rfl:k = pre.length:=by omega
  rw[List.getD_eq_getElem?_getD,List.getElem?_append_right (Nat.le_refl _)]
  simpa using hx
theorem o_mksl {c:CS} {al:Nat→Bool} {lo id:Nat} {e:Env} {g:G} (z esz b n m):opE c al lo id (.mksl z esz b n m) e g = vMksl id z esz b (n.ev e) (m.ev e) g:=rfl
theorem vMksl_ms {id:Nat} {z:List AV} {b n:Nat} {g:G} (h1:1≤n) (h2:n≤1000) (hb:b≤1000) (hz:z.length = 1):vMksl id z 1 b (.i .i64 (n:Int)) (.i .i64 (n:Int)) g = some (.ms id 0 n,⟨upd g.hp id (some (.cells (List.replicate n z).flatten false)),g.nx⟩):=by
 have h3:(b:Int) * (n:Int)≤1000 * 1000:=Int.mul_le_mul (by omega) (by omega) (by omega) (by omega)
 simp only[vMksl]
 rw[if_pos ⟨by omega,by omega,by simp only[lim64];omega,by omega⟩,if_neg (by omega),if_pos ⟨trivial,hz⟩,Int.toNat_natCast]
theorem blk_end {c:ACode} {id:Nat} {e:Env} {g:G} {Q:Out→Env→G→Prop} (M:Env→G→Prop) (h1:W F c e g (blkQ id (midQ M))) (h2:∀ e g,M e g→Q .nrm e g):W F c e g (blkQ id Q):=by
 refine W_mono h1 fun o e g h => ?_
 cases o with
 | nrm => exact h2 e g h
 | ret => exact h.elim
 | ext n =>
   have h:if n = id then midQ M .nrm e g else midQ M (.ext n) e g:=h
   show if n = id then Q .nrm e g else Q (.ext n) e g
   split at h
   ·rename_i hn;rw[if_pos hn];exact h2 e g h
   ·exact h.elim
theorem int_at {l:List Int} {k:Nat} (h:k < l.length):part ((intsC l).drop (k * 1)) 0 none = some (.i .i64 (l.getD k 0)):=ints_part h
structure PgSt (B:Nat) (hp0:Nat→Option Blk) (l:List Int) (T most t:Nat) (cs:List AV) (e:Env) (g:G):Prop where
 e0:e 0 = .sl (intsC l) l.length .non
 e1:e 1 = .i .i64 (T:Nat)
 e2:e 2 = .i .i64 (most:Nat)
 e6:e 6 = .mp B 0
 e7:e 7 = .mp (B + 4) 0
 e8:e 8 = .i .i64 (t:Nat)
 h0:g.hp B = some (.cells [.i .i64 0,.sl [] 0 .rig] false)
 h4:g.hp (B + 4) = some (.cells [.i .i64 2,.ms (B + 2) 0 T] false)
 h2:g.hp (B + 2) = some (.cells cs false)
 nx:B + 4 < g.nx
 len:cs.length = T
 fr:∀ i,i < B→g.hp i = hp0 i
def CsOk (l:List Int) (T t most:Nat) (cs:List AV):Prop:=∀ j,j < T→if j < t then ∃ th tok,cs[j]? = some (.sl (insLC th) th.length tok)∧ThrOk l T j most th else cs[j]? = some (.sl [] 0 .rig)
def retV (rs:List ARes) (P:AV→Prop):Out→Env→G→Prop:=fun o e g => ∃ v,retQ rs v o e g∧P v
theorem pureV_of {f:Nat} {fn:AFun} {asx:List AV} {P:AV→Prop} (hF:F f = some fn) (h:W F fn.body (argEnv asx) g0 (retV fn.res P)) (ha:arB fn asx = true:=by rfl):∃ v,pureS F f asx = some v∧P v:=by
 obtain ⟨o,e,g,h1,v,h2,hp⟩:=h
 exact ⟨v,pure_of hF ⟨o,e,g,h1,h2⟩ ha,hp⟩
theorem pg_count {B:Nat} {hp0:Nat→Option Blk} {l:List Int} {T most t:Nat} {cs:List AV} {Q:Env→G→Prop} (hT:1≤T) (hT8:T≤8) (hm:most≤16) (hl:(l.length:Int)≤9223372036854775807) (ht:t < T) {e:Env} {g:G} (S:PgSt B hp0 l T most t cs e g) (e9:e 9 = .i .i64 0) (e10:e 10 = .i .i64 0) (e11:e 11 = .i .i64 (t:Nat)) (c:ACode)
  (hc:c = (.seq (.seq (.reg false [{ dst:=some 23,op:=.mv (.t 11) },
 { dst:=some 24,op:=.mv (.t 0) },
 { dst:=some 25,op:=.len (.t 24) },
 { dst:=some 26,op:=.bin .lss (.t 23) (.t 25) },
 { dst:=some 27,op:=.mv (.t 26) },
 { dst:=some 28,op:=.mv (.t 9),grd:=some (27,true) },
 { dst:=some 29,op:=.mv (.t 2),grd:=some (27,true) },
 { dst:=some 30,op:=.bin .lss (.t 28) (.t 29),grd:=some (27,true) },
 { dst:=some 31,op:=.pick (.t 27) (.t 30) (.c (.b false)) }])
 (.cond (.t 31) .skip
 (.ext 2)))
 (.seq (.blk 3 (.reg false [{ dst:=some 35,op:=.mv (.t 9) },
  { dst:=some 36,op:=.bin .add (.t 35) (.c (.i .i64 1)) },
  { dst:=some 9,op:=.mv (.t 36) }]))
 (.reg false [{ dst:=some 32,op:=.mv (.t 11) },
  { dst:=some 33,op:=.mv (.t 1) },
  { dst:=some 34,op:=.bin .add (.t 32) (.t 33) },
  { dst:=some 11,op:=.mv (.t 34) }]))))
    (hQ:∀ e g,(∃ n:Nat,PgSt B hp0 l T most t cs e g∧e 9 = .i .i64 (n:Nat)∧e 10 = .i .i64 0∧n≤most∧∀ k,k < n→t + k * T < l.length)→Q e g):W F (.loop c) e g (blkQ 2 (midQ Q)):=by
  refine W_loop (fun q e g => ∃ n:Nat,q = most - n∧n≤most∧PgSt B hp0 l T most t cs e g∧e 9 = .i .i64 (n:Nat)∧e 10 = .i .i64 0∧e 11 = .i .i64 ((t + n * T:Nat):Int)∧∀ k,k < n→t + k * T < l.length) most ⟨0,rfl,Nat.zero_le _,S,e9,e10,by rw[e11];simp,fun k hk => by omega⟩ ?_
  rintro q e g ⟨n,rfl,hn,S,e9,e10,e11,hall⟩
  obtain ⟨e0,e1,e2,e6,e7,e8,h0,h4,h2,hnx,hlen,hfr⟩:=S
  subst hc
  by_cases h1:t + n * T < l.length
  ·have hnT:n * T≤16 * 8:=Nat.mul_le_mul (by omega) hT8
   have h1':((t + n * T:Nat):Int) < l.length:=by omega
   by_cases h2':n < most
   ·have h3:(n:Int) < most:=by omega
    have hw1:=succ_wrap (k:=n) (by omega)
    have hw2:IntKind.i64.wrap (((t + n * T:Nat):Int) + ((T:Nat):Int)) = ((t + (n + 1) * T:Nat):Int):=by
     have hz:t + (n + 1) * T = t + n * T + T:=by rw[Nat.succ_mul];omega
     rw[i64_wrap (by omega) (by omega),hz];omega
    simp (disch:=omega) only[wp,qa,qb,qc,gl,e0,e1,e2,e9,e11,h1',h3,hw1,hw2]
    refine ⟨most - (n + 1),by omega,n + 1,rfl,by omega,⟨?_,?_,?_,?_,?_,?_,h0,h4,h2,by first | omega | (dsimp only;omega),hlen,hfr⟩,rfl,?_,rfl,fun k hk => ?_⟩
    ·simp (disch:=omega) only[wp,qa,qb,qc,e0]
    ·simp (disch:=omega) only[wp,qa,qb,qc,e1]
    ·simp (disch:=omega) only[wp,qa,qb,qc,e2]
    ·simp (disch:=omega) only[wp,qa,qb,qc,e6]
    ·simp (disch:=omega) only[wp,qa,qb,qc,e7]
    ·simp (disch:=omega) only[wp,qa,qb,qc,e8]
    ·simp (disch:=omega) only[wp,qa,qb,qc,e10]
    ·by_cases hk':k = n
     ·subst hk';exact h1
     ·exact hall k (by omega)
   ·have h3:¬ (n:Int) < most:=by omega
    simp (disch:=omega) only[wp,qa,qb,qc,gl,e0,e1,e2,e9,e11,h1',h3]
    refine hQ _ _ ⟨n,⟨?_,?_,?_,?_,?_,?_,h0,h4,h2,by first | omega | (dsimp only;omega),hlen,hfr⟩,?_,?_,hn,hall⟩
    all_goals simp (disch:=omega) only[wp,qa,qb,qc,e0,e1,e2,e6,e7,e8,e9,e10]
  ·have h1':¬ ((t + n * T:Nat):Int) < l.length:=by omega
   simp (disch:=omega) only[wp,qa,qb,qc,gl,e0,e1,e2,e9,e11,h1']
   refine hQ _ _ ⟨n,⟨?_,?_,?_,?_,?_,?_,h0,h4,h2,by first | omega | (dsimp only;omega),hlen,hfr⟩,?_,?_,hn,hall⟩
   all_goals simp (disch:=omega) only[wp,qa,qb,qc,e0,e1,e2,e6,e7,e8,e9,e10]
end Go.Ab
end
section
set_option linter.unusedVariables false
set_option linter.unusedSimpArgs false
namespace Go.Ab
variable {F:Funs}
def pgC:ACode:=(.seq (.seq (.reg false [{ dst:=some 37,op:=.mv (.t 12) },
 { dst:=some 38,op:=.mv (.t 9) },
 { dst:=some 39,op:=.bin .lss (.t 37) (.t 38) }])
 (.cond (.t 39) .skip
 (.ext 4)))
 (.seq (.blk 5 (.seq (.reg true [{ dst:=some 42,op:=.mv (.t 0) },
  { dst:=some 43,op:=.mv (.t 8) },
  { dst:=some 44,op:=.mv (.t 12) },
  { dst:=some 45,op:=.mv (.t 1) },
  { dst:=some 46,op:=.bin .mul (.t 44) (.t 45) },
  { dst:=some 47,op:=.bin .add (.t 43) (.t 46) },
  { dst:=some 48,op:=.ia 1 (.t 42) (.t 47) },
  { dst:=some 49,op:=.ld none (.t 48),pre:=[] },
  { dst:=some 50,op:=.fa 0 (.t 7) },
  { dst:=some 51,op:=.ld none (.t 50),pre:=[] },
  { dst:=some 52,op:=.mv (.t 9) },
  { dst:=some 53,op:=.bin .sub (.t 52) (.c (.i .i64 1)) },
  { dst:=some 54,op:=.mv (.t 12) },
  { dst:=some 55,op:=.bin .sub (.t 53) (.t 54) },
  { dst:=some 56,op:=.call .pure (.c (.fn 97 [] [])) [.t 49,.t 51,.t 55],pre:=[] },
  { dst:=some 13,op:=.new (List.replicate 5 (.i .i64 0) ++ [.sl [] 0 .rig,.i .i64 0]) },
  { dst:=none,op:=.stL 7 (.t 13) (.t 56),pre:=[15] }])
 (.seq (.seq (.reg false [{ dst:=some 57,op:=.fa 0 (.t 13) },
  { dst:=some 58,op:=.ld none (.t 57) },
  { dst:=some 59,op:=.bin .eql (.t 58) (.c (.i .i64 6)) }])
 (.cond (.t 59) (.seq (.reg false [{ dst:=some 60,op:=.mv (.t 10) },
  { dst:=some 61,op:=.bin .add (.t 60) (.c (.i .i64 1)) },
  { dst:=some 10,op:=.mv (.t 61) }])
 (.seq (.reg false [{ dst:=some 62,op:=.mv (.t 10) },
  { dst:=some 63,op:=.bin .gtr (.t 62) (.c (.i .i64 2)) }])
 (.cond (.t 63) (.reg false [{ dst:=some 64,op:=.build (List.replicate 5 (.i .i64 0) ++ [.sl [] 0 .rig,.i .i64 0]) [(0,1,.c (.i .i64 3)),(1,1,.c (.i .i64 4))] },
  { dst:=none,op:=.st 7 (.t 13) (.t 64) }])
 .skip)))
 .skip))
 (.reg true [{ dst:=some 65,op:=.fa 1 (.t 7) },
  { dst:=some 66,op:=.ld none (.t 65),pre:=[] },
  { dst:=some 67,op:=.mv (.t 8) },
  { dst:=some 68,op:=.fa 1 (.t 7) },
  { dst:=some 69,op:=.ld none (.t 68),pre:=[] },
  { dst:=some 70,op:=.mv (.t 8) },
  { dst:=some 71,op:=.ia 1 (.t 69) (.t 70) },
  { dst:=some 72,op:=.ld none (.t 71),pre:=[] },
  { dst:=some 73,op:=.ld (some 7) (.t 13),pre:=[] },
  { dst:=some 74,op:=.bsl true 1 (List.replicate 5 (.i .i64 0) ++ [.sl [] 0 .rig,.i .i64 0]) [(0,7,.t 73)],pre:=[] },
  { dst:=some 75,op:=.app 7 72 (.t 72) (.t 74),pre:=[] },
  { dst:=some 76,op:=.ia 1 (.t 66) (.t 67) },
  { dst:=none,op:=.st 1 (.t 76) (.t 75),pre:=[10] }]))))
 (.reg false [{ dst:=some 40,op:=.mv (.t 12) },
  { dst:=some 41,op:=.bin .add (.t 40) (.c (.i .i64 1)) },
  { dst:=some 12,op:=.mv (.t 41) }])))
def insCt (x:Ins) (tk:Tok):List AV:=[.i .i64 x.kd,.i .i64 x.md,.i .i64 x.md2,.i .i64 x.rg,.i .i64 x.lc,.sl (tkC x.ex) x.ex.length tk,.i .i64 x.n]
theorem min_a {s:Nat} (h:¬ s + 1 > 2):min s 2 + 1 = min (s + 1) 2:=by omega
theorem min_b {s:Nat} (h:s + 1 > 2):min s 2 + 0 = min (s + 1) 2:=by omega
structure PiSt (B:Nat) (hp0:Nat→Option Blk) (l:List Int) (T most t n:Nat) (cs:List AV) (k:Nat) (pre:List Ins) (tok:Tok) (e:Env) (g:G):Prop where
 st:PgSt B hp0 l T most t (cs.set t (.sl (insLC pre) k tok)) e g
 e9:e 9 = .i .i64 (n:Nat)
 e12:e 12 = .i .i64 (k:Nat)
 pl:pre.length = k
 tk:(tok = .rig∧k = 0)∨∃ τ,tok = .own τ 7∧g.hp τ = some (.tok true)∧B + 4 < τ∧τ < g.nx
 pre:PreOk l T t n pre
theorem pg_thread (S:ProgF F) {B:Nat} {hp0:Nat→Option Blk} {l:List Int} {T most t n:Nat} {cs:List AV} {Q:Env→G→Prop} (hT:1≤T) (hT8:T≤8) (hm:most≤16) (hl:(l.length:Int)≤9223372036854775807) (ht:t < T) (hn:n≤most) (hall:∀ k,k < n→t + k * T < l.length) (hcl:cs.length = T) {e:Env} {g:G} (I:PiSt B hp0 l T most t n cs 0 [] .rig e g) (e10:e 10 = .i .i64 0)
  (hQ:∀ e g,(∃ th tok,th.length = n∧PgSt B hp0 l T most t (cs.set t (.sl (insLC th) n tok)) e g∧ThrOk l T t most th)→Q e g):W F (.loop pgC) e g (blkQ 4 (midQ Q)):=by
 have l5:∀ x:AV,List.replicate 5 x = [x,x,x,x,x]:=fun _ => rfl
 have s7:∀ a b c d e f x1 x2 x3 x4 x5 x6 x7 y:AV,splice [a,b,c,d,e,f,y] 0 [x1,x2,x3,x4,x5,x6,x7] = [x1,x2,x3,x4,x5,x6,x7]:=fun _ _ _ _ _ _ _ _ _ _ _ _ _ _ => rfl
 refine W_loop (fun q e g => ∃ (k:Nat) (pre:List Ins) (tok:Tok) (s:Nat),q = n - k∧k≤n∧PiSt B hp0 l T most t n cs k pre tok e g∧e 10 = .i .i64 (s:Nat)∧skips pre = min s 2∧s≤k) n ⟨0,[],.rig,0,rfl,Nat.zero_le _,I,e10,rfl,Nat.le_refl _⟩ ?_
 rintro q e g ⟨k,pre,tok,s,rfl,hkn,I,e10,hsk,hs⟩
 obtain ⟨⟨e0,e1,e2,e6,e7,e8,h0,h4,h2,hnx,hlen,hfr⟩,e9,e12,hpl,htk,hpre⟩:=I
 by_cases h1:k < n
 ·have h1':(k:Int) < n:=by omega
  have hlt:=hall k h1
  have hw1:IntKind.i64.wrap (((k:Nat):Int) * ((T:Nat):Int)) = ((k * T:Nat):Int):=by
   have:k * T≤16 * 8:=Nat.mul_le_mul (by omega) hT8
   rw[←Int.natCast_mul,i64_wrap (by omega) (by omega)]
  have hw2:IntKind.i64.wrap (((t:Nat):Int) + ((k * T:Nat):Int)) = ((t + k * T:Nat):Int):=by
   rw[i64_wrap (by omega) (by omega)];omega
  have hw3:IntKind.i64.wrap (((n:Nat):Int) - 1) = ((n - 1:Nat):Int):=by rw[i64_wrap (by omega) (by omega)];omega
  have hw4:IntKind.i64.wrap (((n - 1:Nat):Int) - ((k:Nat):Int)) = ((n - 1 - k:Nat):Int):=by rw[i64_wrap (by omega) (by omega)];omega
  have hi0:(0:Int)≤((t + k * T:Nat):Int):=by omega
  have hi1:((t + k * T:Nat):Int) < ((l.length:Nat):Int):=by omega
  have hp:=int_at (l:=l) hlt
  have hI:=sp_instr S (v:=l.getD (t + k * T) 0) (left:=((n - 1 - k:Nat):Int)) (by omega) (by omega)
  generalize hx:insN (l.getD (t + k * T) 0) ((n - 1 - k:Nat):Int) = x at hI
  unfold pgC
  simp (disch:=omega) only[wp,qa,qb,qc,gl,e0,e1,e2,e7,e8,e9,e12,h1',hw1,hw2,hw3,hw4,hi0,hi1,hp,hI,h4,insC,exV,l5,s7]
  refine sel_cut (fun e g => ∃ (x':Ins) (s' b:Nat) (tk:Tok),PgSt B hp0 l T most t (cs.set t (.sl (insLC pre) k tok)) e g∧e 9 = .i .i64 (n:Nat)∧e 12 = .i .i64 (k:Nat)∧e 10 = .i .i64 (s':Nat)∧e 13 = .mp b 0∧g.hp b = some (.cells (insCt x' tk) false)∧((tok = .rig∧k = 0)∨∃ τ,tok = .own τ 7∧g.hp τ = some (.tok true)∧B + 4 < τ∧τ < g.nx)∧((∃ v,x' = insN v ((n - 1 - k:Nat):Int))∨x' = fence0)∧skips (pre ++ [x']) = min s' 2∧s'≤k + 1∧B + 4 < b∧b < g.nx) ?_ ?_
  ·have hm3:∀ (x':Ins) (s' b:Nat) (tk:Tok) (e:Env) (g:G),PgSt B hp0 l T most t (cs.set t (.sl (insLC pre) k tok)) e g→e 9 = .i .i64 (n:Nat)→e 12 = .i .i64 (k:Nat)→e 10 = .i .i64 (s':Nat)→e 13 = .mp b 0→g.hp b = some (.cells (insCt x' tk) false)→((tok = .rig∧k = 0)∨∃ τ,tok = .own τ 7∧g.hp τ = some (.tok true)∧B + 4 < τ∧τ < g.nx)→((∃ v,x' = insN v ((n - 1 - k:Nat):Int))∨x' = fence0)→skips (pre ++ [x']) = min s' 2→s'≤k + 1→B + 4 < b→b < g.nx→∃ (x':Ins) (s' b:Nat) (tk:Tok),PgSt B hp0 l T most t (cs.set t (.sl (insLC pre) k tok)) e g∧e 9 = .i .i64 (n:Nat)∧e 12 = .i .i64 (k:Nat)∧e 10 = .i .i64 (s':Nat)∧e 13 = .mp b 0∧g.hp b = some (.cells (insCt x' tk) false)∧((tok = .rig∧k = 0)∨∃ τ,tok = .own τ 7∧g.hp τ = some (.tok true)∧B + 4 < τ∧τ < g.nx)∧((∃ v,x' = insN v ((n - 1 - k:Nat):Int))∨x' = fence0)∧skips (pre ++ [x']) = min s' 2∧s'≤k + 1∧B + 4 < b∧b < g.nx:=
    fun x' s' b tk e g a1 a2 a3 a4 a5 a6 a7 a8 a9 a10 a11 a12 => ⟨x',s',b,tk,a1,a2,a3,a4,a5,a6,a7,a8,a9,a10,a11,a12⟩
   cases h6:(x.kd == 6)
   ·have h6':¬ x.kd = 6:=by simpa using h6
    simp (disch:=omega) only[wp,qa,qb,qc,gl]
    refine hm3 x s (g.nx + 3 + 15) .non _ _ ⟨?_,?_,?_,?_,?_,?_,?_,?_,?_,by first | omega | (dsimp only;omega),hlen,fun i hi => ?_⟩ ?_ ?_ ?_ ?_ ?_ ?_ (.inl ⟨_,hx.symm⟩) (by rw[skips_snoc,if_neg h6',hsk];rfl) (by omega) ?_ ?_
    all_goals first
     | omega
     | (dsimp only;omega)
     | (simp (disch:=omega) only[wp,qa,qb,qc,e0,e1,e2,e6,e7,e8,e9,e10,e12,h0,h4,h2,insCt,fence0,tkC];done)
     | (simp (disch:=omega) only[wp,qa,qb,qc,insCt];done)
     | (simp (disch:=omega) only[wp,qa,qb,qc,hfr i hi];done)
     | (rcases htk with ⟨a,b⟩ | ⟨τ,a,hτ,a1,a2⟩
        ·exact .inl ⟨a,b⟩
        ·exact .inr ⟨τ,a,by simp (disch:=omega) only[wp,qa,qb,qc,hτ],a1,by first | omega | (dsimp only;omega)⟩)
   ·have h6':x.kd = 6:=by simpa using h6
    have hws:IntKind.i64.wrap ((s:Nat) + 1) = ((s + 1:Nat):Int):=succ_wrap (by omega)
    by_cases hs2:s + 1 > 2
    ·have hs2':(2:Int) < ((s + 1:Nat):Int):=by omega
     simp (disch:=omega) only[wp,qa,qb,qc,gl,e10,hws,hs2',l5,s7]
     refine hm3 fence0 (s + 1) (g.nx + 3 + 15) .rig _ _ ⟨?_,?_,?_,?_,?_,?_,?_,?_,?_,by first | omega | (dsimp only;omega),hlen,fun i hi => ?_⟩ ?_ ?_ ?_ ?_ ?_ ?_ (.inr rfl) (by rw[skips_snoc,if_neg (by decide),hsk];exact min_b hs2) (by omega) ?_ ?_
     all_goals first
     | omega
     | (dsimp only;omega)
     | (simp (disch:=omega) only[wp,qa,qb,qc,e0,e1,e2,e6,e7,e8,e9,e10,e12,h0,h4,h2,insCt,fence0,tkC];done)
     | (simp (disch:=omega) only[wp,qa,qb,qc,insCt];done)
     | (simp (disch:=omega) only[wp,qa,qb,qc,hfr i hi];done)
     | (rcases htk with ⟨a,b⟩ | ⟨τ,a,hτ,a1,a2⟩
        ·exact .inl ⟨a,b⟩
        ·exact .inr ⟨τ,a,by simp (disch:=omega) only[wp,qa,qb,qc,hτ],a1,by first | omega | (dsimp only;omega)⟩)
    ·have hs2':¬ (2:Int) < ((s + 1:Nat):Int):=by omega
     simp (disch:=omega) only[wp,qa,qb,qc,gl,e10,hws,hs2']
     refine hm3 x (s + 1) (g.nx + 3 + 15) .non _ _ ⟨?_,?_,?_,?_,?_,?_,?_,?_,?_,by first | omega | (dsimp only;omega),hlen,fun i hi => ?_⟩ ?_ ?_ ?_ ?_ ?_ ?_ (.inl ⟨_,hx.symm⟩) (by rw[skips_snoc,if_pos h6',hsk];exact min_a hs2) (by omega) ?_ ?_
     all_goals first
     | omega
     | (dsimp only;omega)
     | (simp (disch:=omega) only[wp,qa,qb,qc,e0,e1,e2,e6,e7,e8,e9,e10,e12,h0,h4,h2,insCt,fence0,tkC];done)
     | (simp (disch:=omega) only[wp,qa,qb,qc,insCt];done)
     | (simp (disch:=omega) only[wp,qa,qb,qc,hfr i hi];done)
     | (rcases htk with ⟨a,b⟩ | ⟨τ,a,hτ,a1,a2⟩
        ·exact .inl ⟨a,b⟩
        ·exact .inr ⟨τ,a,by simp (disch:=omega) only[wp,qa,qb,qc,hτ],a1,by first | omega | (dsimp only;omega)⟩)
  ·rintro e g ⟨x',s',b,tk,⟨e0,e1,e2,e6,e7,e8,h0,h4,h2,hnx,hlen,hfr⟩,e9,e12,e10,e13,hb,htk,hx',hsk',hs',hb4,hbn⟩
   have hti0:(0:Int)≤((t:Nat):Int):=by omega
   have hti1:((t:Nat):Int) < ((T:Nat):Int):=by omega
   have hpt:part (cs.set t (.sl (insLC pre) k tok)) (t * 1) none = some (.sl (insLC pre) k tok):=by
    simp only[part,Nat.mul_one]
    rw[List.getElem?_set_self (by omega)]
   have hil:=insLC_len pre
   have hwk:=succ_wrap (k:=k) (by omega)
   rcases htk with ⟨rfl,rfl⟩ | ⟨τ,rfl,hτ,hτ4,hτn⟩
   ·simp (disch:=omega) only[wp,qa,qb,qc,gl,e1,e7,e8,e12,e13,h4,h2,hb,hti0,hti1,hpt,insCt,insC,exV,part_ag7,s7,hil,List.length_set,hwk]
    refine ⟨n - (0 + 1),by omega,0 + 1,pre ++ [x'],.own (g.nx + 10) 7,s',rfl,by omega,⟨⟨?_,?_,?_,?_,?_,?_,?_,?_,?_,by first | omega | (dsimp only;omega),by rw[List.length_set];omega,fun i hi => ?_⟩,?_,?_,by rw[List.length_append,List.length_singleton];omega,.inr ⟨_,rfl,by simp (disch:=omega) only[wp,qa,qb,qc],by omega,by first | omega | (dsimp only;omega)⟩,hpre.snoc (by rw[hpl];exact hx')⟩,?_,hsk',by omega⟩
    all_goals first
     | (simp (disch:=omega) only[wp,qa,qb,qc,e0,e1,e2,e6,e7,e8,e9,e10,e12,h0,h4,h2,insLC_snoc,List.set_set,Nat.mul_one,insC,exV];done)
     | (simp (disch:=omega) only[wp,qa,qb,qc,hfr i hi];done)
   ·simp (disch:=omega) only[wp,qa,qb,qc,gl,e1,e7,e8,e12,e13,h4,h2,hb,hτ,hti0,hti1,hpt,insCt,insC,exV,part_ag7,s7,hil,List.length_set,hwk]
    refine ⟨n - (k + 1),by omega,k + 1,pre ++ [x'],.own (g.nx + 10) 7,s',rfl,by omega,⟨⟨?_,?_,?_,?_,?_,?_,?_,?_,?_,by first | omega | (dsimp only;omega),by rw[List.length_set];omega,fun i hi => ?_⟩,?_,?_,by rw[List.length_append,List.length_singleton];omega,.inr ⟨_,rfl,by simp (disch:=omega) only[wp,qa,qb,qc],by omega,by first | omega | (dsimp only;omega)⟩,hpre.snoc (by rw[hpl];exact hx')⟩,?_,hsk',by omega⟩
    all_goals first
     | (simp (disch:=omega) only[wp,qa,qb,qc,e0,e1,e2,e6,e7,e8,e9,e10,e12,h0,h4,h2,insLC_snoc,List.set_set,Nat.mul_one,insC,exV];done)
     | (simp (disch:=omega) only[wp,qa,qb,qc,hfr i hi];done)
 ·have h1':¬ (k:Int) < n:=by omega
  obtain rfl:k = n:=by omega
  unfold pgC
  simp (disch:=omega) only[wp,qa,qb,qc,gl,e9,e12,h1']
  refine hQ _ _ ⟨pre,tok,hpl,⟨?_,?_,?_,?_,?_,?_,h0,h4,h2,by first | omega | (dsimp only;omega),hlen,hfr⟩,⟨by omega,fun j hj => hall j (by omega),by rw[hpl];exact hpre,by omega⟩⟩
  all_goals simp (disch:=omega) only[wp,qa,qb,qc,e0,e1,e2,e6,e7,e8]
end Go.Ab
end
section
set_option linter.unusedVariables false
set_option linter.unusedSimpArgs false
namespace Go.Ab
variable {F:Funs}
def thsC (ths:List (List Ins)):List AV:=ths.map fun th => .sl (insLC th) th.length .non
structure PgEnd (B:Nat) (hp0:Nat→Option Blk) (l:List Int) (T most:Nat) (cs:List AV) (e:Env) (g:G):Prop where
 e6:e 6 = .mp B 0
 h0:g.hp B = some (.cells [.i .i64 2,.ms (B + 2) 0 T] false)
 h2:g.hp (B + 2) = some (.cells cs false)
 nx:B + 4 < g.nx
 len:cs.length = T
 fr:∀ i,i < B→g.hp i = hp0 i
 ok:CsOk l T T most cs
theorem set_same {cs:List AV} {t:Nat} {v:AV} (h:cs[t]? = some v):cs.set t v = cs:=by
 refine List.ext_getElem? fun j => ?_
 by_cases hj:t = j
 ·subst hj
  rw[List.getElem?_set_self (List.getElem?_eq_some_iff.1 h).1,h]
 ·rw[List.getElem?_set_ne hj]
theorem pg_walk (S:ProgF F) {l:List Int} {T most:Nat} (hT:1≤T) (hT8:T≤8) (hm:most≤16) (hl:(l.length:Int)≤9223372036854775807) {g:G} {Q:Out→Env→G→Prop} (hQ:∀ e g' cs,PgEnd g.nx g.hp l T most cs e g'→Q .ret e g'):W F A_xlaw00_Prog.body (argEnv [.sl (intsC l) l.length .non,.i .i64 (T:Nat),.i .i64 (most:Nat)]) g Q:=by
 have hmk:=fun id g => vMksl_ms (id:=id) (z:=[AV.sl [] 0 .rig]) (b:=24) (n:=T) (g:=g) hT (by omega) (by omega) rfl
 simp (disch:=omega) only[A_xlaw00_Prog,wp,qa,qb,qc,gl,o_mksl,hmk,Nat.add_assoc]
 refine blk_cut (fun e g' => ∃ cs,PgSt g.nx g.hp l T most T cs e g'∧CsOk l T T most cs) ?_ ?_
 ·refine W_loop (fun q e g' => ∃ (t:Nat) (cs:List AV),q = T - t∧t≤T∧PgSt g.nx g.hp l T most t cs e g'∧CsOk l T t most cs) T ?_ ?_
  ·refine ⟨0,(List.replicate T [AV.sl [] 0 .rig]).flatten,rfl,Nat.zero_le _,⟨?_,?_,?_,?_,?_,?_,?_,?_,?_,by first | omega | (dsimp only;omega),by simp,fun i hi => ?_⟩,fun j hj => ?_⟩
   ·simp (disch:=omega) only[wp,qa,qb,qc]
   ·simp (disch:=omega) only[wp,qa,qb,qc]
   ·simp (disch:=omega) only[wp,qa,qb,qc]
   ·simp (disch:=omega) only[wp,qa,qb,qc]
   ·simp (disch:=omega) only[wp,qa,qb,qc]
   ·simp (disch:=omega) only[wp,qa,qb,qc];rfl
   ·simp (disch:=omega) only[wp,qa,qb,qc]
   ·simp (disch:=omega) only[wp,qa,qb,qc]
   ·simp (disch:=omega) only[wp,qa,qb,qc]
   ·simp (disch:=omega) only[wp,qa,qb,qc]
   ·rw[if_neg (by omega)]
    have hf:(List.replicate T [AV.sl [] 0 Tok.rig]).flatten = List.replicate T (AV.sl [] 0 .rig):=by simp[List.flatten_replicate_singleton]
    rw[hf,List.getElem?_replicate,if_pos hj]
  ·rintro q e g' ⟨t,cs,rfl,htT,St,hcs⟩
   have St0:=St
   obtain ⟨e0,e1,e2,e6,e7,e8,h0,h4,h2,hnx,hlen,hfr⟩:=St
   by_cases ht:t < T
   ·have ht':(t:Int) < T:=by omega
    simp (disch:=omega) only[wp,qa,qb,qc,gl,e1,e8,ht']
    refine blk_cut (fun e g' => ∃ n:Nat,PgSt g.nx g.hp l T most t cs e g'∧e 9 = .i .i64 (n:Nat)∧e 10 = .i .i64 0∧n≤most∧∀ k,k < n→t + k * T < l.length) ?_ ?_
    ·refine pg_count hT hT8 hm hl ht (B:=g.nx) (hp0:=g.hp) (cs:=cs) (g:=⟨g'.hp,g'.nx + 3 + 2 + 2⟩) ⟨?_,?_,?_,?_,?_,?_,h0,h4,h2,?_,hlen,hfr⟩ ?_ ?_ ?_ _ rfl (fun e g h => h)
     all_goals first | (simp (disch:=omega) only[wp,qa,qb,qc,e0,e1,e2,e6,e7,e8];done) | omega | (dsimp only;omega)
    ·rintro e g1 ⟨n,⟨e0,e1,e2,e6,e7,e8,h0,h4,h2,hnx,hlen,hfr⟩,e9,e10,hn,hall⟩
     simp (disch:=omega) only[wp,qa,qb,qc,gl]
     have hct:cs[t]? = some (.sl [] 0 .rig):=by have:=hcs t ht;rwa [if_neg (by omega)] at this
     refine blk_end (fun e g' => ∃ th tok,PgSt g.nx g.hp l T most t (cs.set t (.sl (insLC th) n tok)) e g'∧th.length = n∧ThrOk l T t most th) ?_ ?_
     ·show W F (.loop pgC) _ _ _
      refine pg_thread S hT hT8 hm hl ht hn hall hlen (B:=g.nx) (hp0:=g.hp) (g:=⟨g1.hp,g1.nx + 1⟩) ⟨⟨?_,?_,?_,?_,?_,?_,h0,h4,?_,?_,by rw[List.length_set];exact hlen,hfr⟩,?_,?_,rfl,.inl ⟨rfl,rfl⟩,⟨fun k hk => by simp at hk⟩⟩ ?_ (fun e g ⟨th,tok,a,b,c⟩ => ⟨th,tok,b,a,c⟩)
      ·simp (disch:=omega) only[wp,qa,qb,qc,e0]
      ·simp (disch:=omega) only[wp,qa,qb,qc,e1]
      ·simp (disch:=omega) only[wp,qa,qb,qc,e2]
      ·simp (disch:=omega) only[wp,qa,qb,qc,e6]
      ·simp (disch:=omega) only[wp,qa,qb,qc,e7]
      ·simp (disch:=omega) only[wp,qa,qb,qc,e8]
      ·rw[show insLC [] = [] from rfl,set_same hct];exact h2
      ·first | omega | (dsimp only;omega)
      ·simp (disch:=omega) only[wp,qa,qb,qc,e9]
      ·simp (disch:=omega) only[wp,qa,qb,qc];rfl
      ·simp (disch:=omega) only[wp,qa,qb,qc,e10]
     ·rintro e g2 ⟨th,tok,⟨e0,e1,e2,e6,e7,e8,h0,h4,h2,hnx,hlen2,hfr⟩,hthn,hth⟩
      have hwt:=succ_wrap (k:=t) (by omega)
      simp (disch:=omega) only[wp,qa,qb,qc,gl,e8,hwt]
      refine ⟨T - (t + 1),by omega,t + 1,cs.set t (.sl (insLC th) n tok),rfl,by omega,⟨?_,?_,?_,?_,?_,?_,h0,h4,h2,by first | omega | (dsimp only;omega),hlen2,hfr⟩,fun j hj => ?_⟩
      ·simp (disch:=omega) only[wp,qa,qb,qc,e0]
      ·simp (disch:=omega) only[wp,qa,qb,qc,e1]
      ·simp (disch:=omega) only[wp,qa,qb,qc,e2]
      ·simp (disch:=omega) only[wp,qa,qb,qc,e6]
      ·simp (disch:=omega) only[wp,qa,qb,qc,e7]
      ·simp (disch:=omega) only[wp,qa,qb,qc]
      ·by_cases hjt:j = t
       ·subst hjt
        rw[if_pos (by omega)]
        exact ⟨th,tok,by rw[List.getElem?_set_self (by omega),hthn],hth⟩
       ·have:=hcs j hj
        by_cases hj2:j < t
        ·rw[if_pos hj2] at this
         rw[if_pos (by omega),List.getElem?_set_ne (by omega)]
         exact this
        ·rw[if_neg hj2] at this
         rw[if_neg (by omega),List.getElem?_set_ne (by omega)]
         exact this
   ·have ht':¬ (t:Int) < T:=by omega
    obtain rfl:t = T:=by omega
    simp (disch:=omega) only[wp,qa,qb,qc,gl,e1,e8,ht']
    refine ⟨cs,⟨?_,?_,?_,?_,?_,?_,h0,h4,h2,by first | omega | (dsimp only;omega),hlen,hfr⟩,hcs⟩
    all_goals simp (disch:=omega) only[wp,qa,qb,qc,e0,e1,e2,e6,e7,e8]
 ·rintro e g1 ⟨cs,⟨e0,e1,e2,e6,e7,e8,h0,h4,h2,hnx,hlen,hfr⟩,hcs⟩
  simp (disch:=omega) only[wp,qa,qb,qc,gl,e6,e7,h0,h4,part_ag2]
  refine hQ _ _ cs ⟨?_,?_,?_,by first | omega | (dsimp only;omega),hlen,fun i hi => ?_,hcs⟩
  ·simp (disch:=omega) only[wp,qa,qb,qc,e6]
  ·simp (disch:=omega) only[wp,qa,qb,qc]
  ·simp (disch:=omega) only[wp,qa,qb,qc,h2]
  ·simp (disch:=omega) only[wp,qa,qb,qc,hfr i hi]
theorem list_of {P:Nat→List Ins→Prop}:∀ (cs:List AV),(∀ j,j < cs.length→∃ th tok,cs[j]? = some (.sl (insLC th) th.length tok)∧P j th)→∃ ths:List (List Ins),ths.length = cs.length∧∀ j,j < cs.length→(∃ tok,cs[j]? = some (.sl (insLC (ths.getD j [])) (ths.getD j []).length tok))∧P j (ths.getD j []):=by
 intro cs
 induction cs generalizing P with
 | nil => intro _;exact ⟨[],rfl,fun j hj => by simp at hj⟩
 | cons c cs ih =>
   intro h
   obtain ⟨th,tok,h1,h2⟩:=h 0 (by simp)
   obtain ⟨ths,h3,h4⟩:=ih (P:=fun j => P (j + 1)) (fun j hj => by simpa using h (j + 1) (by simpa using hj))
   refine ⟨th :: ths,by simp[h3],fun j hj => ?_⟩
   cases j with
   | zero => exact ⟨⟨tok,by simpa using h1⟩,by simpa using h2⟩
   | succ j => simpa using h4 j (by simpa using hj)
theorem frzL_ths {hp:Nat→Option Blk} {k:Nat}:∀ {cs:List AV} {ths:List (List Ins)},ths.length = cs.length→(∀ j,j < cs.length→∃ tok,cs[j]? = some (.sl (insLC (ths.getD j [])) (ths.getD j []).length tok))→frzL hp (k + 1) cs = some (thsC ths)
 | [],[],_,_ => by simp[frzL,thsC]
 | c :: cs,th :: ths,hl,h => by
   obtain ⟨tok,h1⟩:=h 0 (by simp)
   have ih:=frzL_ths (hp:=hp) (k:=k) (cs:=cs) (ths:=ths) (by simpa using hl) (fun j hj => by simpa using h (j + 1) (by simpa using hj))
   have h1:c = .sl (insLC th) th.length tok:=by simpa using h1
   subst h1
   simp only[frzL,frz,ih]
   rfl
theorem sp_prog (S:ProgF F) (h86:F 86 = some A_xlaw00_Prog) {l:List Int} {T most:Nat} (hT:1≤T) (hT8:T≤8) (hm:most≤16) (hl:(l.length:Int)≤9223372036854775807):∃ ths:List (List Ins),pureS F 86 [.sl (intsC l) l.length .non,.i .i64 (T:Nat),.i .i64 (most:Nat)] = some (.agg [.i .i64 2,.sl (thsC ths) T .non])∧ths.length = T∧∀ t,t < T→ThrOk l T t most (ths.getD t []):=by
 obtain ⟨v,h1,ths,rfl,h2,h3⟩:=pureV_of (P:=fun v => ∃ ths:List (List Ins),v = .agg [.i .i64 2,.sl (thsC ths) T .non]∧ths.length = T∧∀ t,t < T→ThrOk l T t most (ths.getD t [])) h86 (pg_walk S hT hT8 hm hl (g:=g0) fun e g' cs ⟨e6,h0,h2,hnx,hlen,hfr,hok⟩ => by
  obtain ⟨ths,a1,a2⟩:=list_of (P:=fun j th => ThrOk l T j most th) cs (fun j hj => by
   have:=hok j (by omega)
   rw[if_pos (by omega)] at this
   exact this)
  refine ⟨_,?_,ths,rfl,by omega,fun t ht => (a2 t (by omega)).2⟩
  show (match resE [.cell 6 (some 2)] e g' with | some v0 => frz g'.hp depth v0 | none => none) = _
  rw[res_cell,e6]
  simp only[resC,h0,part_ag2]
  refine frz_d_agg ?_
  show frzL _ (7 + 1) _ = _
  simp only[frzL,frz,h2,List.drop_zero,frzL_ths (k:=6) (by omega) (fun j hj => (a2 j hj).1)]
  rfl)
 exact ⟨ths,h1,h2,h3⟩
end Go.Ab
end
section
set_option linter.unusedVariables false
set_option linter.unusedSimpArgs false
namespace Go.Ab
def ExOk (ex:List (Int × Int)):Prop:=∃ a b m:Int,0≤a∧a < 3∧0≤b∧b < 3∧0≤m∧m < 10∧ex = exM a b m
theorem exN_ok (v:Int):ExOk (exN v):=by
 obtain ⟨p0,p1⟩:=place_lt (v:=v) (n:=1073741824) (by omega)
 exact ⟨_,_,_,by omega,by omega,by omega,by omega,by omega,by omega,rfl⟩
inductive InsK (left:Int):Ins→Prop
 | ld (md rg lc:Int) (h1:md = 0∨md = 1) (h2:rg = 0∨rg = 1∨rg = 2) (h3:lc = 0∨lc = 1):InsK left ⟨1,md,0,rg,lc,[],0⟩
 | st (md lc:Int) (ex:List (Int × Int)) (h1:md = 0∨md = 2) (h3:lc = 0∨lc = 1) (he:ExOk ex):InsK left ⟨2,md,0,0,lc,ex,0⟩
 | fe (md:Int) (h1:md = 1∨md = 2∨md = 3∨md = 4):InsK left ⟨3,md,0,0,0,[],0⟩
 | fa (md md2 rg lc c:Int) (h1:md = 0∨md = 1) (h4:md2 = 0∨md2 = 2) (h2:rg = 0∨rg = 1∨rg = 2) (h3:lc = 0∨lc = 1) (h5:c = 0∨c = 1):InsK left ⟨4,md,md2,rg,lc,[(1,c)],0⟩
 | se (rg:Int) (ex:List (Int × Int)) (h2:rg = 0∨rg = 1∨rg = 2) (he:ExOk ex):InsK left ⟨5,0,0,rg,0,ex,0⟩
 | sk (ex:List (Int × Int)) (n:Int) (he:ExOk ex) (h0:0≤n) (h1:n≤left):InsK left ⟨6,0,0,0,0,ex,n⟩
theorem acq_01 (w:Int):acqM w = 0∨acqM w = 1:=by unfold acqM;split<;>omega
theorem rel_02 (w:Int):relM w = 0∨relM w = 2:=by unfold relM;split<;>omega
theorem insN_k {v left:Int} (h:0≤left):InsK left (insN v left):=by
 obtain ⟨p0,p1⟩:=place_lt (v:=v) (n:=1099511627776) (by omega)
 unfold insN
 generalize place v 1099511627776 = k at p0 p1
 have w0:0≤k / 20:=by omega
 generalize k / 20 = w at w0
 generalize k % 20 = t
 unfold insT
 split
 ·exact .ld _ _ _ (acq_01 w) (by omega) (by omega)
 split
 ·exact .st _ _ _ (rel_02 w) (by omega) (exN_ok _)
 split
 ·exact .fe _ (by omega)
 split
 ·exact .fa _ _ _ _ _ (acq_01 w) (rel_02 w) (by omega) (by omega) (by omega)
 split
 ·exact .se _ _ (by omega) (exN_ok _)
 ·have h1:=Int.emod_nonneg (w / 19) (by omega:left + 1≠0)
  have h2:=Int.emod_lt_of_pos (w / 19) (by omega:0 < left + 1)
  exact .sk _ _ (exN_ok _) h1 (by omega)
theorem fence_k (left:Int):InsK left fence0:=.fe 4 (by omega)
theorem PreOk.k {l:List Int} {T t n:Nat} {pre:List Ins} (h:PreOk l T t n pre) {k:Nat} (hk:k < pre.length):InsK ((n - 1 - k:Nat):Int) (pre.getD k fence0):=by
 rcases h.ins k hk with ⟨v,h1⟩ | h1
 ·rw[h1];exact insN_k (by omega)
 ·rw[h1];exact fence_k _
end Go.Ab
end
section
set_option linter.unusedVariables false
set_option linter.unusedSimpArgs false
namespace Go.Ab
theorem insLC_drop:∀ {l:List Ins} {k:Nat} (h:k < l.length),(insLC l).drop (k * 7) = insC (l.getD k fence0) ++ insLC (l.drop (k + 1))
 | x :: l,0,_ => by simp[insLC]
 | x :: l,k + 1,h => by
   have:=insLC_drop (l:=l) (k:=k) (by simpa using h)
   simp only[List.getD_cons_succ,List.drop_succ_cons]
   rw[←this]
   simp[insLC,Nat.succ_mul,insC]
theorem ins_at {l:List Ins} {k:Nat} (h:k < l.length):part ((insLC l).drop (k * 7)) 0 (some 7) = some (.agg (insC (l.getD k fence0))):=by
 rw[insLC_drop h]
 show (if 0 + 7≤(insC (l.getD k fence0) ++ insLC (l.drop (k + 1))).length then _ else none) = _
 rw[if_pos (by rw[List.length_append,insC_len];omega)]
 rfl
theorem th_at {l:List (List Ins)} {k:Nat} (h:k < l.length):part ((thsC l).drop (k * 1)) 0 none = some (.sl (insLC (l.getD k [])) (l.getD k []).length .non):=by
 simp only[part,Nat.mul_one,thsC]
 rw[List.getElem?_drop,Nat.add_zero,List.getElem?_map,List.getD_eq_getElem?_getD]
 cases hz:l[k]? with
 | none => rw[List.getElem?_eq_none_iff] at hz;omega
 | some x => rfl
theorem skips_take {l:List Ins} {k:Nat} (h:k < l.length):skips (l.take (k + 1)) = skips (l.take k) + (if (l.getD k fence0).kd = 6 then 1 else 0):=by
 rw[List.take_add_one,List.getD_eq_getElem?_getD]
 cases hz:l[k]? with
 | none => rw[List.getElem?_eq_none_iff] at hz;omega
 | some x => simpa using skips_snoc (l.take k) x
theorem skips_le (l:List Ins) (k:Nat):skips (l.take k)≤skips l:=by
 unfold skips
 exact List.Sublist.countP_le (List.take_sublist k l)
structure ThK (th:List Ins):Prop where
 len:th.length≤12
 ins:∀ k,k < th.length→InsK ((th.length - 1 - k:Nat):Int) (th.getD k fence0)
 sk:skips th≤2
theorem ThrOk.k {l:List Int} {T t most:Nat} {th:List Ins} (h:ThrOk l T t most th) (hm:most≤12):ThK th:=
 ⟨Nat.le_trans h.most hm,fun k hk => h.pre.k hk,h.sk⟩
end Go.Ab
end
section
set_option linter.unusedVariables false
set_option linter.unusedSimpArgs false
namespace Go.Ab
variable {F:Funs}
def wdB (p:Int × Int):Bool:=
 if p.1 = 1 then decide (-2147483648≤p.2) && decide (p.2≤2147483647) else if p.1 = 2 then decide (0≤p.2) && decide (p.2 < 8) else if p.1 = 3 then decide (1≤p.2) && decide (p.2≤6) else false
def chkG:List (Int × Int)→Nat→Option Nat
 | [],d => some d
 | p :: l,d => if wdB p = true then (if p.1 = 3 then (if d < 2 then none else chkG l (d - 1)) else chkG l (d + 1)) else none
theorem chkG_cons (p l d):chkG (p :: l) d = if wdB p = true then (if p.1 = 3 then (if d < 2 then none else chkG l (d - 1)) else chkG l (d + 1)) else none:=by simp only[chkG]
theorem chkG_nil (d):chkG [] d = some d:=by simp only[chkG]
def chkX (ex:List (Int × Int)):Bool:=match chkG ex 0 with
 | some d => decide (d = 1) && decide (ex.length≤9)
 | none => false
theorem sp_word (h:F 125 = some A_xref02_word) (p:Int × Int):pureS F 125 [.agg [.i .i64 p.1,.i .i64 p.2]] = some (.b (wdB p)):=by
 refine pure_of h ?_
 unfold wdB
 by_cases c1:p.1 = 1
 ·by_cases c2:-2147483648≤p.2
  ·by_cases c3:p.2≤2147483647<;>simp (disch:=omega) only[A_xref02_word,wp,qa,qb,qc,c1,c2,c3,if_true,Int.reduceBEq]
  ·simp (disch:=omega) only[A_xref02_word,wp,qa,qb,qc,c1,c2,if_true,Int.reduceBEq]
 have c1':(p.1 == 1) = false:=by simpa using c1
 by_cases c4:p.1 = 2
 ·by_cases c2:0≤p.2
  ·by_cases c3:p.2 < 8<;>simp (disch:=omega) only[A_xref02_word,wp,qa,qb,qc,c4,c2,c3,if_true,if_false,Int.reduceBEq,Int.reduceEq]
  ·simp (disch:=omega) only[A_xref02_word,wp,qa,qb,qc,c4,c2,if_true,if_false,Int.reduceBEq,Int.reduceEq]
 have c4':(p.1 == 2) = false:=by simpa using c4
 by_cases c5:p.1 = 3
 ·by_cases c2:1≤p.2
  ·by_cases c3:p.2≤6<;>simp (disch:=omega) only[A_xref02_word,wp,qa,qb,qc,c5,c2,c3,if_true,if_false,Int.reduceBEq,Int.reduceEq]
  ·simp (disch:=omega) only[A_xref02_word,wp,qa,qb,qc,c5,c2,if_true,if_false,Int.reduceBEq,Int.reduceEq]
 have c5':(p.1 == 3) = false:=by simpa using c5
 simp (disch:=omega) only[A_xref02_word,wp,qa,qb,qc,c1,c4,c5,c1',c4',c5',if_false]
theorem tk_drop:∀ {l:List (Int × Int)} {k:Nat} (h:k < l.length),(tkC l).drop (k * 2) = .i .i64 (l.getD k (0,0)).1 :: .i .i64 (l.getD k (0,0)).2 :: tkC (l.drop (k + 1))
 | a :: l,0,_ => by simp[tkC]
 | a :: l,k + 1,h => by
   have:=tk_drop (l:=l) (k:=k) (by simpa using h)
   simp only[tkC,List.flatMap_cons,Nat.add_mul,Nat.one_mul] at this ⊢
   rw[Nat.add_comm,←List.drop_drop]
   simpa using this
theorem tk_ag {l:List (Int × Int)} {k:Nat} (h:k < l.length):part ((tkC l).drop (k * 2)) 0 (some 2) = some (.agg [.i .i64 (l.getD k (0,0)).1,.i .i64 (l.getD k (0,0)).2]):=by
 rw[tk_drop h];simp[part]
theorem tk_k {l:List (Int × Int)} {k:Nat} (h:k < l.length):part ((tkC l).drop (k * 2)) 0 none = some (.i .i64 (l.getD k (0,0)).1):=by
 rw[tk_drop h];rfl
theorem tk_v {l:List (Int × Int)} {k:Nat} (h:k < l.length):part (((tkC l).drop (k * 2)).drop 1) 0 none = some (.i .i64 (l.getD k (0,0)).2):=by
 rw[tk_drop h];rfl
theorem tk_l {l:List (Int × Int)} {k:Nat} (h:k < l.length):2≤((tkC l).drop (k * 2)).length:=by
 rw[tk_drop h];simp
theorem drop_cons {α:Type} {l:List α} {d:α} {k:Nat} (h:k < l.length):l.drop k = l.getD k d :: l.drop (k + 1):=by
 rw[List.drop_eq_getElem_cons h,List.getD_eq_getElem?_getD,List.getElem?_eq_getElem h];rfl
theorem sp_exCheck (h109:F 109 = some A_xref02_Check) (h125:F 125 = some A_xref02_word) (ex:List (Int × Int)) (hl:ex.length≤1000000):pureS F 109 [exV ex] = some (.b (chkX ex)):=by
 refine pure_of h109 ?_
 unfold exV
 simp (disch:=omega) only[A_xref02_Check,wp,qa,qb,qc]
 refine blk_cutR (fun e g => ∃ d:Nat,e 0 = .sl (tkC ex) ex.length .non∧e 3 = .i .i64 ((d:Nat):Int)∧chkG ex 0 = some d) ?_ ?_
 ·refine W_loop (fun q e g => ∃ k d:Nat,q = ex.length - k∧k≤ex.length∧d≤k∧e 0 = .sl (tkC ex) ex.length .non∧e 3 = .i .i64 ((d:Nat):Int)∧e 4 = .i .i64 ((k:Nat):Int)∧chkG ex 0 = chkG (ex.drop k) d) ex.length ?_ ?_
  ·refine ⟨0,0,rfl,Nat.zero_le _,Nat.le_refl _,?_⟩
   simp (disch:=omega) only[wp,qa,qb,qc]
   exact ⟨rfl,rfl,rfl⟩
  ·rintro q e g ⟨k,d,rfl,hk,hd,e0,e3,e4,hc⟩
   by_cases c1:k < ex.length
   ·have c1':((k:Nat):Int) < ((ex.length:Nat):Int):=by omega
    have ha:=tk_ag c1
    have hkd:=tk_k c1
    have hl2:=tk_l c1
    have hw:=succ_wrap (k:=k) (by omega)
    have hwd:=succ_wrap (k:=d) (by omega)
    have hsp:=sp_word h125 (ex.getD k (0,0))
    have hdc:=drop_cons (d:=((0,0):Int × Int)) c1
    rw[hdc,chkG_cons] at hc
    generalize ex.getD k (0,0) = p at ha hkd hsp hc
    cases c2:wdB p with
    | false =>
      rw[c2] at hsp hc
      simp (disch:=omega) only[wp,qa,qb,qc,e0,e3,e4,c1',ha,hsp,Nat.mul_one,frz_ag2]
      unfold chkX
      rw[hc]
      simp
    | true =>
      rw[c2] at hsp hc
      rw[if_pos rfl] at hc
      by_cases c3:p.1 = 3
      ·rw[if_pos c3] at hc
       have c3':(p.1 != 3) = false:=by simpa using c3
       by_cases c4:d < 2
       ·rw[if_pos c4] at hc
        have c4':((d:Nat):Int) < 2:=by omega
        simp (disch:=omega) only[wp,qa,qb,qc,e0,e3,e4,c1',ha,hsp,hkd,c3',c4',frz_ag2]
        unfold chkX
        rw[hc]
       ·rw[if_neg c4] at hc
        have c4':¬ ((d:Nat):Int) < 2:=by omega
        have hs:IntKind.i64.wrap (((d:Nat):Int) - 1) = ((d - 1:Nat):Int):=by rw[i64_wrap (by omega) (by omega)];omega
        simp (disch:=omega) only[wp,qa,qb,qc,e0,e3,e4,c1',ha,hsp,hkd,c3',c4',hs,hw,frz_ag2]
        exact ⟨ex.length - (k + 1),by omega,k + 1,d - 1,rfl,by omega,by omega,rfl,rfl,hc⟩
      ·rw[if_neg c3] at hc
       have c3':(p.1 != 3) = true:=by simpa using c3
       simp (disch:=omega) only[wp,qa,qb,qc,e0,e3,e4,c1',ha,hsp,hkd,c3',hw,hwd,frz_ag2]
       exact ⟨ex.length - (k + 1),by omega,k + 1,d + 1,rfl,by omega,by omega,rfl,rfl,hc⟩
   ·have c1':¬ ((k:Nat):Int) < ((ex.length:Nat):Int):=by omega
    obtain rfl:k = ex.length:=by omega
    rw[List.drop_length] at hc
    simp (disch:=omega) only[wp,qa,qb,qc,e0,e3,e4,c1']
    exact ⟨d,rfl,hc⟩
 ·rintro e g ⟨d,e0,e3,hc⟩
  unfold chkX
  rw[hc]
  by_cases c1:d = 1
  ·subst c1
   have c2:((((1:Nat):Int)) == 1) = true:=rfl
   by_cases c3:ex.length≤9
   ·have c3':((ex.length:Nat):Int)≤9:=by omega
    simp (disch:=omega) only[wp,qa,qb,qc,e0,e3,c2,c3,c3']
   ·have c3':¬ ((ex.length:Nat):Int)≤9:=by omega
    simp (disch:=omega) only[wp,qa,qb,qc,e0,e3,c2,c3,c3']
  ·have c2:(((d:Nat):Int) == 1) = false:=by simp;omega
   simp (disch:=omega) only[wp,qa,qb,qc,e0,e3,c1,c2]
def xorI (a b:Int):Int:=IntKind.i64.wrap ((BitVec.ofInt IntKind.i64.bits a ^^^ BitVec.ofInt IntKind.i64.bits b).toNat:Nat)
theorem b_xor (a b:Int):abin .xor (.i .i64 a) (.i .i64 b) = some (.i .i64 (xorI a b)):=by simp[abin,ibin,xorI]
def doX (o a b:Int):Int:=
 if o = 1 then IntKind.i64.wrap (a + b) else if o = 2 then IntKind.i64.wrap (a - b) else if o = 3 then IntKind.i64.wrap (a * b) else if o = 4 then xorI a b else
  if o = 5 then (if a = b then 1 else 0) else if o = 6 then (if a < b then 1 else 0) else 0
theorem sp_do (h:F 128 = some A_xref02_Do) (o a b:Int):pureS F 128 [.i .i64 o,.i .i64 a,.i .i64 b] = some (.i .i64 (doX o a b)):=by
 refine pure_of h ?_
 unfold doX
 by_cases c1:o = 1
 ·simp (disch:=omega) only[A_xref02_Do,wp,qa,qb,qc,c1,if_true,Int.reduceBEq]
 have c1':(o == 1) = false:=by simpa using c1
 by_cases c2:o = 2
 ·simp (disch:=omega) only[A_xref02_Do,wp,qa,qb,qc,c2,if_true,if_false,Int.reduceBEq,Int.reduceEq]
 have c2':(o == 2) = false:=by simpa using c2
 by_cases c3:o = 3
 ·simp (disch:=omega) only[A_xref02_Do,wp,qa,qb,qc,c3,if_true,if_false,Int.reduceBEq,Int.reduceEq]
 have c3':(o == 3) = false:=by simpa using c3
 by_cases c4:o = 4
 ·simp (disch:=omega) only[A_xref02_Do,wp,qa,qb,qc,c4,if_true,if_false,Int.reduceBEq,Int.reduceEq,b_xor]
 have c4':(o == 4) = false:=by simpa using c4
 by_cases c5:o = 5
 ·subst c5
  by_cases c:a = b
  ·have c':(a == b) = true:=by simpa using c
   simp (disch:=omega) only[A_xref02_Do,wp,qa,qb,qc,c,c',if_true,if_false,Int.reduceBEq,Int.reduceEq]
  ·have c':(a == b) = false:=by simpa using c
   simp (disch:=omega) only[A_xref02_Do,wp,qa,qb,qc,c,c',if_true,if_false,Int.reduceBEq,Int.reduceEq]
 have c5':(o == 5) = false:=by simpa using c5
 by_cases c6:o = 6
 ·subst c6
  by_cases c:a < b
  ·simp (disch:=omega) only[A_xref02_Do,wp,qa,qb,qc,c,if_true,if_false,Int.reduceBEq,Int.reduceEq]
  ·simp (disch:=omega) only[A_xref02_Do,wp,qa,qb,qc,c,if_true,if_false,Int.reduceBEq,Int.reduceEq]
 have c6':(o == 6) = false:=by simpa using c6
 simp (disch:=omega) only[A_xref02_Do,wp,qa,qb,qc,c1,c2,c3,c4,c5,c6,c1',c2',c3',c4',c5',c6',if_false]
end Go.Ab
end
section
set_option linter.unusedVariables false
set_option linter.unusedSimpArgs false
namespace Go.Ab
variable {F:Funs}
structure FewG (X:Gr):Prop where
 evs:X.evs.length≤50
 rf:X.rf.length≤60
 co:X.co.length≤6
 cos:∀ c∈X.co,c.length≤50
 rmw:X.rmw.length≤50
 data:X.data.length≤300
 ctrl:X.ctrl.length≤300
 ctrli:X.ctrli.length≤300
theorem FewG.few {X:Gr} (h:FewG X):Few X:=⟨by have:=h.evs;omega,h.co,fun c hc => by have:=h.cos c hc;omega⟩
end Go.Ab
end
section
set_option linter.unusedVariables false
set_option linter.unusedSimpArgs false
namespace Go.Ab
variable {F:Funs}
def EvOk (locs i:Int) (p e:Ev):Prop:=
 (i < locs→e.th = 0∧e.kd = 2∧e.md = 0∧e.lc = i∧e.vl = 0∧e.ex = false) ∧
 (¬ i < locs→1≤e.th∧e.th≤4∧p.th≤e.th∧((e.kd = 1∧0≤e.lc∧e.lc < locs∧(e.md = 0∨e.md = 1))∨(e.kd = 2∧0≤e.lc∧e.lc < locs∧(e.md = 0∨e.md = 2))∨(e.kd = 3∧1≤e.md∧e.md≤4∧e.lc = 0∧e.vl = 0∧e.ex = false)))
end Go.Ab
end
section
set_option linter.unusedVariables false
set_option linter.unusedSimpArgs false
namespace Go.Ab
variable {F:Funs}
def RfOk (X:Gr) (i:Nat):Prop:=((X.evs.getD i ev0).kd≠1→X.rf.getD i 0 = -1) ∧
 ((X.evs.getD i ev0).kd = 1→0≤X.rf.getD i 0∧X.rf.getD i 0 < X.evs.length∧(X.evs.getD (X.rf.getD i 0).toNat ev0).kd = 2∧(X.evs.getD (X.rf.getD i 0).toNat ev0).lc = (X.evs.getD i ev0).lc∧(X.evs.getD (X.rf.getD i 0).toNat ev0).vl = (X.evs.getD i ev0).vl)
def isWr (loc:Int) (e:Ev):Bool:=e.kd == 2 && e.lc == loc
def cntW (X:Gr) (loc:Int) (k:Nat):Nat:=((X.evs.take k).filter (isWr loc)).length
theorem cntW_le (X:Gr) (loc:Int) (k:Nat):cntW X loc k≤k:=by
 unfold cntW
 have h1:=List.length_filter_le (isWr loc) (X.evs.take k)
 rw[List.length_take] at h1;omega
structure CoOk (X:Gr) (loc:Nat):Prop where
 wr:∀ i,i < (X.co.getD loc []).length→0≤(X.co.getD loc []).getD i 0∧(X.co.getD loc []).getD i 0 < X.evs.length∧(X.evs.getD ((X.co.getD loc []).getD i 0).toNat ev0).kd = 2∧(X.evs.getD ((X.co.getD loc []).getD i 0).toNat ev0).lc = loc
 ne:∀ i,i < (X.co.getD loc []).length→∀ k,k < i→(X.co.getD loc []).getD k 0≠(X.co.getD loc []).getD i 0
 len:(X.co.getD loc []).length = cntW X loc X.evs.length
 pos:0 < (X.co.getD loc []).length
 hd:(X.co.getD loc []).getD 0 0 = loc
end Go.Ab
end
section
set_option linter.unusedVariables false
set_option linter.unusedSimpArgs false
namespace Go.Ab
variable {F:Funs}
def lessP (p q:Int × Int):Prop:=p.1 < q.1∨(p.1 = q.1∧p.2 < q.2)
def Rising (l:List (Int × Int)):Prop:=∀ i,i + 1 < l.length→lessP (l.getD i (0,0)) (l.getD (i + 1) (0,0))
def DepOk (X:Gr) (p:Int × Int):Prop:=0≤p.1∧p.1 < p.2∧p.2 < X.evs.length∧(X.evs.getD p.1.toNat ev0).kd = 1∧(X.evs.getD p.1.toNat ev0).th = (X.evs.getD p.2.toNat ev0).th
def DepsOk (X:Gr) (l:List (Int × Int)):Prop:=(∀ i,i < l.length→DepOk X (l.getD i (0,0)))∧Rising l
end Go.Ab
end
section
set_option linter.unusedVariables false
set_option linter.unusedSimpArgs false
namespace Go.Ab
variable {F:Funs}
def inB (i:Nat) (p:Int × Int):Bool:=p.1 == (i:Int) || p.2 == (i:Int)
def inC (l:List (Int × Int)) (i:Nat):Nat:=(l.filter (inB i)).length
def PairOk (X:Gr) (p:Int × Int):Prop:=0≤p.1∧p.1 < X.evs.length - 1∧p.2 = p.1 + 1∧(X.evs.getD p.1.toNat ev0).th = (X.evs.getD p.2.toNat ev0).th∧(X.evs.getD p.1.toNat ev0).kd = 1∧(X.evs.getD p.2.toNat ev0).kd = 2∧(X.evs.getD p.1.toNat ev0).lc = (X.evs.getD p.2.toNat ev0).lc∧(X.evs.getD p.1.toNat ev0).ex = true∧(X.evs.getD p.2.toNat ev0).ex = true
structure RmwOk (X:Gr):Prop where
 pairs:∀ j,j < X.rmw.length→PairOk X (X.rmw.getD j (0,0))
 once:∀ i,i < X.evs.length→inC X.rmw i≤1∧(X.evs.getD i ev0).ex = ((inC X.rmw i:Int) == 1)
 rise:Rising X.rmw
end Go.Ab
end
section
set_option linter.unusedVariables false
set_option linter.unusedSimpArgs false
namespace Go.Ab
variable {F:Funs}
structure GraphOk (X:Gr):Prop where
 locs1:1≤X.locs
 locs4:X.locs≤4
 nl:X.locs≤X.evs.length
 n40:X.evs.length≤40
 rfl:X.rf.length = X.evs.length
 col:(X.co.length:Int) = X.locs
 ev:∀ i,i < X.evs.length→EvOk X.locs i (X.evs.getD (i - 1) ev0) (X.evs.getD i ev0)
 rf:∀ i,i < X.evs.length→RfOk X i
 co:∀ i,i < X.co.length→CoOk X i
 rmw:RmwOk X
 data:DepsOk X X.data
 ctrl:DepsOk X X.ctrl
 ctrli:DepsOk X X.ctrli
end Go.Ab
end
section
set_option linter.unusedVariables false
set_option linter.unusedSimpArgs false
namespace Go.Ab
instance (p q:Int × Int):Decidable (lessP p q):=by unfold lessP;infer_instance
theorem lessP_trans {p q r:Int × Int} (h:lessP p q) (k:lessP q r):lessP p r:=by unfold lessP at *;omega
theorem lessP_tot {p q:Int × Int} (h:¬ lessP p q) (n:p≠q):lessP q p:=by
 unfold lessP at *
 have:¬ (p.1 = q.1∧p.2 = q.2):=fun h => n (Prod.ext h.1 h.2)
 omega
def Up (l:List Int):Prop:=l.Pairwise (· < ·)
def putI:List Int→Int→List Int
 | [],v => [v]
 | a :: l,v => if a < v then a :: putI l v else if a = v then a :: l else v :: a :: l
theorem putI_eq:∀ {l:List Int} {v:Int} {k:Nat},k≤l.length→(∀ j,j < k→l.getD j 0 < v)→(k < l.length→v < l.getD k 0)→putI l v = l.take k ++ v :: l.drop k
 | [],v,k,hk,_,_ => by
   obtain rfl:k = 0:=by simpa using hk
   rfl
 | a :: l,v,0,_,_,h => by
   have h1:v < a:=by simpa using h (by simp)
   simp only[putI,List.take_zero,List.drop_zero,List.nil_append]
   rw[if_neg (by omega),if_neg (by omega)]
 | a :: l,v,k + 1,hk,h,h2 => by
   have h1:a < v:=by simpa using h 0 (by omega)
   simp only[putI,List.take_succ_cons,List.drop_succ_cons,List.cons_append]
   rw[if_pos h1,putI_eq (by simpa using hk) (fun j hj => by simpa using h (j + 1) (by omega)) (fun hl => by simpa using h2 (by simpa using hl))]
theorem putI_has:∀ {l:List Int} {v:Int} {k:Nat},k < l.length→(∀ j,j < k→l.getD j 0 < v)→l.getD k 0 = v→putI l v = l
 | [],v,k,hk,_,_ => by simp at hk
 | a :: l,v,0,_,_,h => by
   have h1:a = v:=by simpa using h
   simp only[putI]
   rw[if_neg (by omega),if_pos h1]
 | a :: l,v,k + 1,hk,h,h2 => by
   have h1:a < v:=by simpa using h 0 (by omega)
   simp only[putI]
   rw[if_pos h1,putI_has (by simpa using hk) (fun j hj => by simpa using h (j + 1) (by omega)) (by simpa using h2)]
theorem putI_mem:∀ {l:List Int} {v x:Int},x∈putI l v↔x∈l∨x = v
 | [],v,x => by simp[putI]
 | a :: l,v,x => by
   unfold putI
   split
   ·simp[putI_mem,or_assoc]
   ·split
    ·rename_i h1 h2
     subst h2
     simp only[List.mem_cons]
     refine ⟨fun h => .inl h,fun h => ?_⟩
     rcases h with h | h
     ·exact h
     ·exact .inl h
    ·simp only[List.mem_cons]
     refine ⟨fun h => ?_,fun h => ?_⟩
     ·rcases h with h | h | h
      ·exact .inr h
      ·exact .inl (.inl h)
      ·exact .inl (.inr h)
     ·rcases h with (h | h) | h
      ·exact .inr (.inl h)
      ·exact .inr (.inr h)
      ·exact .inl h
theorem putI_up:∀ {l:List Int} {v:Int},Up l→Up (putI l v)
 | [],v,_ => by simp[putI,Up]
 | a :: l,v,h => by
   obtain ⟨h1,h2⟩:=List.pairwise_cons.1 h
   unfold putI
   split
   ·rename_i hv
    refine List.pairwise_cons.2 ⟨fun x hx => ?_,putI_up h2⟩
    rcases putI_mem.1 hx with hx | hx
    ·exact h1 x hx
    ·omega
   ·split
    ·exact h
    ·rename_i hv hn
     refine List.pairwise_cons.2 ⟨fun x hx => ?_,h⟩
     rcases List.mem_cons.1 hx with rfl | hx
     ·omega
     ·have:=h1 x hx;omega
def bothI (a b:List Int):List Int:=b.foldl putI a
theorem bothI_mem:∀ {b a:List Int} {x:Int},x∈bothI a b↔x∈a∨x∈b
 | [],a,x => by simp[bothI]
 | v :: b,a,x => by
   show x∈bothI (putI a v) b↔_
   rw[bothI_mem,putI_mem,List.mem_cons,or_assoc]
theorem bothI_up:∀ {b a:List Int},Up a→Up (bothI a b)
 | [],a,h => h
 | v :: b,a,h => bothI_up (b:=b) (putI_up h)
theorem up_len:∀ {l:List Int} {lo hi:Int},Up l→(∀ r∈l,lo≤r∧r < hi)→l.length≤(hi - lo).toNat
 | [],_,_,_,_ => Nat.zero_le _
 | a :: l,lo,hi,h,hb => by
   obtain ⟨h1,h2⟩:=List.pairwise_cons.1 h
   have ha:=hb a (List.mem_cons_self ..)
   have:=up_len (lo:=a + 1) (hi:=hi) h2 fun r hr => ⟨by have:=h1 r hr;omega,(hb r (List.mem_cons_of_mem _ hr)).2⟩
   simp only[List.length_cons]
   omega
def insP:List (Int × Int)→Int × Int→List (Int × Int)
 | [],p => [p]
 | q :: l,p => if lessP q p then q :: insP l p else p :: q :: l
theorem insP_mem:∀ {l:List (Int × Int)} {p x:Int × Int},x∈insP l p↔x∈l∨x = p
 | [],p,x => by simp[insP]
 | a :: l,p,x => by
   unfold insP
   split
   ·simp[insP_mem,or_assoc]
   ·simp only[List.mem_cons]
    refine ⟨fun h => ?_,fun h => ?_⟩
    ·rcases h with h | h | h
     ·exact .inr h
     ·exact .inl (.inl h)
     ·exact .inl (.inr h)
    ·rcases h with (h | h) | h
     ·exact .inr (.inl h)
     ·exact .inr (.inr h)
     ·exact .inl h
theorem insP_len:∀ {l:List (Int × Int)} {p:Int × Int},(insP l p).length = l.length + 1
 | [],p => rfl
 | a :: l,p => by
   unfold insP
   split
   ·simp[insP_len]
   ·simp
theorem insP_pw:∀ {l:List (Int × Int)} {p:Int × Int},l.Pairwise lessP→p ∉ l→(insP l p).Pairwise lessP
 | [],p,_,_ => by simp[insP]
 | a :: l,p,h,hn => by
   obtain ⟨h1,h2⟩:=List.pairwise_cons.1 h
   unfold insP
   split
   ·rename_i hv
    refine List.pairwise_cons.2 ⟨fun x hx => ?_,insP_pw h2 fun hm => hn (List.mem_cons_of_mem _ hm)⟩
    rcases insP_mem.1 hx with hx | rfl
    ·exact h1 x hx
    ·exact hv
   ·rename_i hv
    have hpa:lessP p a:=lessP_tot hv fun h => hn (by rw[h];exact List.mem_cons_self ..)
    refine List.pairwise_cons.2 ⟨fun x hx => ?_,h⟩
    rcases List.mem_cons.1 hx with rfl | hx
    ·exact hpa
    ·exact lessP_trans hpa (h1 x hx)
def pairsI (l:List (Int × Int)) (rs:List Int) (b:Int):List (Int × Int):=rs.foldl (fun l r => insP l (r,b)) l
theorem pairsI_mem:∀ {rs:List Int} {l:List (Int × Int)} {b:Int} {x:Int × Int},x∈pairsI l rs b↔x∈l∨(x.2 = b∧x.1∈rs)
 | [],l,b,x => by simp[pairsI]
 | r :: rs,l,b,x => by
   show x∈pairsI (insP l (r,b)) rs b↔_
   rw[pairsI_mem,insP_mem,List.mem_cons]
   have he:x = (r,b)↔x.1 = r∧x.2 = b:=by rw[Prod.ext_iff]
   rw[he]
   refine ⟨fun h => ?_,fun h => ?_⟩
   ·rcases h with (h | ⟨h1,h2⟩) | ⟨h1,h2⟩
    ·exact .inl h
    ·exact .inr ⟨h2,.inl h1⟩
    ·exact .inr ⟨h1,.inr h2⟩
   ·rcases h with h | ⟨h1,h2 | h2⟩
    ·exact .inl (.inl h)
    ·exact .inl (.inr ⟨h2,h1⟩)
    ·exact .inr ⟨h1,h2⟩
theorem pairsI_len:∀ {rs:List Int} {l:List (Int × Int)} {b:Int},(pairsI l rs b).length = l.length + rs.length
 | [],l,b => rfl
 | r :: rs,l,b => by
   show (pairsI (insP l (r,b)) rs b).length = _
   rw[pairsI_len,insP_len,List.length_cons]
   omega
theorem pairsI_pw:∀ {rs:List Int} {l:List (Int × Int)} {b:Int},l.Pairwise lessP→(∀ r∈rs,(r,b) ∉ l)→rs.Nodup→(pairsI l rs b).Pairwise lessP
 | [],l,b,h,_,_ => h
 | r :: rs,l,b,h,hn,hd => by
   obtain ⟨d1,d2⟩:=List.nodup_cons.1 hd
   show (pairsI (insP l (r,b)) rs b).Pairwise lessP
   refine pairsI_pw (insP_pw h (hn r (List.mem_cons_self ..))) (fun r' hr' hm => ?_) d2
   rcases insP_mem.1 hm with hm | hm
   ·exact hn r' (List.mem_cons_of_mem _ hr') hm
   ·have:r' = r:=congrArg Prod.fst hm
    subst this
    exact d1 hr'
theorem Up.nodup {l:List Int} (h:Up l):l.Nodup:=List.Pairwise.imp (fun {a b} (hab:a < b) => (by omega:a≠b)) h
structure RS where
 evs:List Ev
 rmw:List (Int × Int)
 data:List (Int × Int)
 ctrl:List (Int × Int)
 used:Nat
 regs:List Int
 frm:List (List Int)
 now:List Int
 short:Bool
def rs0:RS:=⟨[],[],[],[],0,List.replicate 8 0,List.replicate 8 [],[],false⟩
def evR (s:RS) (e:Ev) (dl:List Int):RS:={ s with evs:=s.evs ++ [e],data:=pairsI s.data dl s.evs.length,ctrl:=pairsI s.ctrl s.now s.evs.length }
def rdR (s:RS) (reads:List Int) (loc mode:Int) (ex:Bool) (reg:Nat):RS:=
 if reads.length≤s.used then { s with short:=true } else
  let s1:=evR { s with used:=s.used + 1 } ⟨0,1,mode,loc,reads.getD s.used 0,ex⟩ []
  { s1 with regs:=s1.regs.set reg (reads.getD s.used 0),frm:=s1.frm.set reg [(s.evs.length:Int)] }
def wrR (s:RS) (loc mode:Int) (ex:Bool) (v:Int) (dl:List Int):RS:=
 let s1:=evR s ⟨0,2,mode,loc,v,ex⟩ dl
 if ex then { s1 with rmw:=s1.rmw ++ [((s.evs.length:Int) - 1,(s.evs.length:Int))] } else s1
def exR (ex:List (Int × Int)):List Nat:=match ex with
 | (2,a) :: _ => [a.toNat]
 | _ => []
def ofR (s:RS) (ex:List (Int × Int)):List Int:=(exR ex).foldl (fun l r => bothI l (s.frm.getD r [])) []
def faR (s:RS) (reads:List Int) (loc md md2:Int) (reg:Nat) (from_:List Int) (add:Int):RS:=
 let s1:=rdR s reads loc md true reg
 if reads.length≤s.used then s1 else wrR s1 loc md2 true (IntKind.i64.wrap (s1.regs.getD reg 0 + add)) (bothI from_ (s1.frm.getD reg []))
def stR (V:List (Int × Int)→List Int→Int) (reads:List Int) (s:RS) (x:Ins):RS:=
 if x.kd = 1 then rdR s reads x.lc x.md false x.rg.toNat
 else if x.kd = 2 then wrR s x.lc x.md false (V x.ex s.regs) (ofR s x.ex)
 else if x.kd = 3 then evR s ⟨0,3,x.md,0,0,false⟩ []
 else if x.kd = 4 then faR s reads x.lc x.md x.md2 x.rg.toNat (ofR s x.ex) (V x.ex s.regs)
 else if x.kd = 5 then { s with regs:=s.regs.set x.rg.toNat (V x.ex s.regs),frm:=s.frm.set x.rg.toNat (ofR s x.ex) }
 else { s with now:=bothI s.now (ofR s x.ex) }
def skR (V:List (Int × Int)→List Int→Int) (s:RS) (x:Ins):Nat:=if x.kd = 6∧V x.ex s.regs≠0 then x.n.toNat else 0
def runR (V:List (Int × Int)→List Int→Int) (reads:List Int) (th:List Ins):Nat→Nat→RS→RS
 | 0,_,s => s
 | f + 1,k,s => if k < th.length∧s.short = false then runR V reads th f (k + skR V s (th.getD k fence0) + 1) (stR V reads s (th.getD k fence0)) else s
def doR (V:List (Int × Int)→List Int→Int) (th:List Ins) (reads:List Int):RS:=runR V reads th th.length 0 rs0
end Go.Ab
end
section
set_option linter.unusedVariables false
set_option linter.unusedSimpArgs false
namespace Go.Ab
def EvT (e:Ev):Prop:=e.th = 0∧((e.kd = 1∧(e.lc = 0∨e.lc = 1)∧(e.md = 0∨e.md = 1))∨(e.kd = 2∧(e.lc = 0∨e.lc = 1)∧(e.md = 0∨e.md = 2))∨(e.kd = 3∧1≤e.md∧e.md≤4∧e.lc = 0∧e.vl = 0∧e.ex = false))
def RdL (es:List Ev) (l:List Int):Prop:=(∀ r∈l,0≤r∧r < es.length∧(es.getD r.toNat ev0).kd = 1)∧Up l
def DpL (es:List Ev) (l:List (Int × Int)):Prop:=(∀ p∈l,0≤p.1∧p.1 < p.2∧p.2 < es.length∧(es.getD p.1.toNat ev0).kd = 1∧(es.getD p.1.toNat ev0).th = (es.getD p.2.toNat ev0).th)∧l.Pairwise lessP
def RmP (es:List Ev) (p:Int × Int):Prop:=0≤p.1∧p.2 = p.1 + 1∧p.2 < es.length∧(es.getD p.1.toNat ev0).th = (es.getD p.2.toNat ev0).th∧(es.getD p.1.toNat ev0).kd = 1∧(es.getD p.2.toNat ev0).kd = 2∧(es.getD p.1.toNat ev0).lc = (es.getD p.2.toNat ev0).lc∧(es.getD p.1.toNat ev0).ex = true∧(es.getD p.2.toNat ev0).ex = true
structure RmL (es:List Ev) (l:List (Int × Int)):Prop where
 pairs:∀ p∈l,RmP es p
 once:∀ i,i < es.length→inC l i≤1∧(es.getD i ev0).ex = ((inC l i:Int) == 1)
 rise:l.Pairwise lessP
 len:l.length≤es.length
theorem getD_l {es:List Ev} {x:List Ev} {i:Nat} (h:i < es.length):(es ++ x).getD i ev0 = es.getD i ev0:=by
 simp[List.getD,List.getElem?_append_left h]
theorem getD_r {es:List Ev} {x:List Ev} {i:Nat}:(es ++ x).getD (es.length + i) ev0 = x.getD i ev0:=by
 simp[List.getD,List.getElem?_append_right]
theorem RdL.mono {es x l} (h:RdL es l):RdL (es ++ x) l:=by
 refine ⟨fun r hr => ?_,h.2⟩
 obtain ⟨h0,h1,h2⟩:=h.1 r hr
 refine ⟨h0,by rw[List.length_append];omega,?_⟩
 rw[getD_l (by omega)];exact h2
theorem DpL.mono {es x l} (h:DpL es l):DpL (es ++ x) l:=by
 refine ⟨fun p hp => ?_,h.2⟩
 obtain ⟨h0,h1,h2,h3,h4⟩:=h.1 p hp
 refine ⟨h0,h1,by rw[List.length_append];omega,?_,?_⟩
 ·rw[getD_l (by omega)];exact h3
 ·rw[getD_l (by omega),getD_l (by omega)];exact h4
theorem RmP.mono {es x p} (h:RmP es p):RmP (es ++ x) p:=by
 obtain ⟨h0,h1,h2,h3⟩:=h
 refine ⟨h0,h1,by rw[List.length_append];omega,?_⟩
 rw[getD_l (by omega),getD_l (by omega)];exact h3
theorem inC_app (a b:List (Int × Int)) (i:Nat):inC (a ++ b) i = inC a i + inC b i:=by simp[inC]
theorem inC_zero {l:List (Int × Int)} {i:Nat} (h:∀ p∈l,p.1≠(i:Int)∧p.2≠(i:Int)):inC l i = 0:=by
 unfold inC
 rw[List.length_eq_zero_iff,List.filter_eq_nil_iff]
 intro p hp
 have:=h p hp
 simp[inB,this.1,this.2]
theorem DpL.pairs {es:List Ev} {l:List (Int × Int)} {rs:List Int} {e:Ev} (h:DpL es l) (hr:RdL es rs) (ht:∀ x∈es,x.th = e.th):DpL (es ++ [e]) (pairsI l rs es.length):=by
 refine ⟨fun p hp => ?_,pairsI_pw h.2 (fun r hr' hm => ?_) hr.2.nodup⟩
 ·rcases pairsI_mem.1 hp with hp | ⟨hp2,hp1⟩
  ·exact (h.mono (x:=[e])).1 p hp
  ·obtain ⟨h0,h1,h2⟩:=hr.1 _ hp1
   refine ⟨h0,by omega,by rw[List.length_append];simp;omega,?_,?_⟩
   ·rw[getD_l (by omega)];exact h2
   ·rw[getD_l (by omega),hp2,show ((es.length:Int)).toNat = es.length + 0 by simp,getD_r]
    have:es.getD p.1.toNat ev0∈es:=by
     rw[List.getD_eq_getElem?_getD,List.getElem?_eq_getElem (by omega)]
     exact List.getElem_mem _
    exact ht _ this
 ·have:=h.1 _ hm
  simp only at this
  omega
theorem RmL.one {es l} {e:Ev} (h:RmL es l) (he:e.ex = false):RmL (es ++ [e]) l:=by
 refine ⟨fun p hp => (h.pairs p hp).mono,fun i hi => ?_,h.rise,by have:=h.len;rw[List.length_append];omega⟩
 by_cases c:i < es.length
 ·rw[getD_l c];exact h.once i c
 ·obtain rfl:i = es.length:=by rw[List.length_append] at hi;simp at hi;omega
  have hz:inC l es.length = 0:=inC_zero fun p hp => by
   obtain ⟨h0,h1,h2,_⟩:=h.pairs p hp
   omega
  rw[hz]
  refine ⟨by omega,?_⟩
  have:(es ++ [e]).getD es.length ev0 = e:=by have:=getD_r (es:=es) (x:=[e]) (i:=0);rw[Nat.add_zero] at this;rw[this];rfl
  rw[this,he]
  rfl
theorem RmL.two {es l} {r w:Ev} (h:RmL es l) (h1:r.th = w.th) (h2:r.kd = 1) (h3:w.kd = 2) (h4:r.lc = w.lc) (h5:r.ex = true) (h6:w.ex = true):RmL (es ++ [r] ++ [w]) (l ++ [((es.length:Int),(es.length:Int) + 1)]):=by
 have er:(es ++ [r] ++ [w]).getD es.length ev0 = r:=by
  rw[List.append_assoc];simp
 have ew:(es ++ [r] ++ [w]).getD (es.length + 1) ev0 = w:=by
  rw[List.append_assoc];simp
 have hlen:(es ++ [r] ++ [w]).length = es.length + 2:=by simp
 refine ⟨fun p hp => ?_,fun i hi => ?_,?_,?_⟩
 ·rcases List.mem_append.1 hp with hp | hp
  ·rw[List.append_assoc];exact (h.pairs p hp).mono
  ·obtain rfl:p = ((es.length:Int),(es.length:Int) + 1):=by simpa using hp
   have e1:((es.length:Int)).toNat = es.length:=by omega
   have e2:((es.length:Int) + 1).toNat = es.length + 1:=by omega
   refine ⟨by simp,rfl,by rw[hlen];simp,?_⟩
   simp only[e1,e2,er,ew]
   exact ⟨h1,h2,h3,h4,h5,h6⟩
 ·rw[inC_app]
  rw[hlen] at hi
  by_cases c:i < es.length
  ·have hz:inC [((es.length:Int),(es.length:Int) + 1)] i = 0:=inC_zero fun p hp => by
    obtain rfl:p = ((es.length:Int),(es.length:Int) + 1):=by simpa using hp
    simp only;omega
   rw[hz,List.append_assoc,getD_l c]
   exact h.once i c
  ·have hz:inC l i = 0:=inC_zero fun p hp => by
    obtain ⟨h0,h1,h2,_⟩:=h.pairs p hp
    omega
   rw[hz]
   by_cases c2:i = es.length
   ·subst c2
    rw[er,h5]
    simp[inC,inB]
   ·obtain rfl:i = es.length + 1:=by omega
    rw[ew,h6]
    simp[inC,inB]
 ·refine List.pairwise_append.2 ⟨h.rise,by simp,fun p hp q hq => ?_⟩
  obtain rfl:q = ((es.length:Int),(es.length:Int) + 1):=by simpa using hq
  obtain ⟨h0,h1,h2,_⟩:=h.pairs p hp
  unfold lessP
  simp only
  omega
 ·have:=h.len
  simp
  omega
structure RIn0 (s:RS):Prop where
 ev:∀ e∈s.evs,EvT e
 data:DpL s.evs s.data
 ctrl:DpL s.evs s.ctrl
 frm:∀ l∈s.frm,RdL s.evs l
 now:RdL s.evs s.now
 f8:s.frm.length = 8
 r8:s.regs.length = 8
 dl:s.data.length≤s.evs.length * s.evs.length
 cl:s.ctrl.length≤s.evs.length * s.evs.length
structure RInv (s:RS):Prop where
 b:RIn0 s
 rmw:RmL s.evs s.rmw
theorem RdL.len {es l} (h:RdL es l):l.length≤es.length:=by
 have:=up_len (lo:=0) (hi:=es.length) h.2 fun r hr => ⟨(h.1 r hr).1,(h.1 r hr).2.1⟩
 omega
theorem rdL_nil (es):RdL es []:=⟨fun r hr => absurd hr (List.not_mem_nil),List.Pairwise.nil⟩
theorem RIn0.ev1 {s:RS} {e:Ev} {dl:List Int} (h:RIn0 s) (he:EvT e) (hd:RdL s.evs dl):RIn0 (evR s e dl):=by
 have hth:∀ x∈s.evs,x.th = e.th:=fun x hx => by rw[(h.ev x hx).1,he.1]
 have hq:∀ a m:Nat,a≤m * m→∀ b,b≤m→a + b≤(m + 1) * (m + 1):=by
  intro a m h1 b h2
  have:(m + 1) * (m + 1) = m * m + m + m + 1:=by rw[Nat.add_mul,Nat.mul_add];omega
  omega
 refine ⟨fun x hx => ?_,h.data.pairs hd hth,h.ctrl.pairs h.now hth,fun l hl => (h.frm l hl).mono,h.now.mono,h.f8,h.r8,?_,?_⟩
 ·rcases List.mem_append.1 hx with hx | hx
  ·exact h.ev x hx
  ·obtain rfl:x = e:=by simpa using hx
   exact he
 ·show (pairsI _ _ _).length≤(s.evs ++ [e]).length * (s.evs ++ [e]).length
  rw[pairsI_len,List.length_append,List.length_singleton]
  exact hq _ _ h.dl _ hd.len
 ·show (pairsI _ _ _).length≤(s.evs ++ [e]).length * (s.evs ++ [e]).length
  rw[pairsI_len,List.length_append,List.length_singleton]
  exact hq _ _ h.cl _ h.now.len
theorem RdL.both {es a b} (ha:RdL es a) (hb:RdL es b):RdL es (bothI a b):=by
 refine ⟨fun r hr => ?_,bothI_up ha.2⟩
 rcases bothI_mem.1 hr with h | h
 ·exact ha.1 r h
 ·exact hb.1 r h
theorem RIn0.at {s:RS} (h:RIn0 s) (r:Nat):RdL s.evs (s.frm.getD r []):=by
 by_cases c:r < s.frm.length
 ·refine h.frm _ ?_
  rw[List.getD_eq_getElem?_getD,List.getElem?_eq_getElem c]
  exact List.getElem_mem c
 ·rw[List.getD_eq_getElem?_getD,List.getElem?_eq_none (by omega)]
  exact rdL_nil _
theorem RIn0.of {s:RS} (h:RIn0 s) (ex):RdL s.evs (ofR s ex):=by
 unfold ofR exR
 split
 ·exact (rdL_nil _).both (h.at _)
 ·exact rdL_nil _
theorem mem_set {α:Type} {l:List α} {i:Nat} {a x:α} (h:x∈l.set i a):x∈l∨x = a:=List.mem_or_eq_of_mem_set h
theorem RIn0.rd {s:RS} (h:RIn0 s) {reads:List Int} {loc mode:Int} {ex:Bool} {reg:Nat} (hl:loc = 0∨loc = 1) (hm:mode = 0∨mode = 1):RIn0 (rdR s reads loc mode ex reg):=by
 unfold rdR
 split
 ·exact ⟨h.ev,h.data,h.ctrl,h.frm,h.now,h.f8,h.r8,h.dl,h.cl⟩
 ·have h1:RIn0 (evR { s with used:=s.used + 1 } ⟨0,1,mode,loc,reads.getD s.used 0,ex⟩ []):=
   RIn0.ev1 (s:={ s with used:=s.used + 1 }) ⟨h.ev,h.data,h.ctrl,h.frm,h.now,h.f8,h.r8,h.dl,h.cl⟩ ⟨rfl,.inl ⟨rfl,hl,hm⟩⟩ (rdL_nil _)
  refine ⟨h1.ev,h1.data,h1.ctrl,fun l hl => ?_,h1.now,by simpa using h1.f8,by simpa using h1.r8,h1.dl,h1.cl⟩
  rcases mem_set hl with hl | rfl
  ·exact h1.frm l hl
  ·refine ⟨fun r hr => ?_,by simp[Up]⟩
   obtain rfl:r = (s.evs.length:Int):=by simpa using hr
   refine ⟨by omega,?_,?_⟩
   ·show _ < (((s.evs ++ [_]).length:Nat):Int)
    simp;omega
   ·show ((s.evs ++ [_]).getD _ ev0).kd = 1
    have:=getD_r (es:=s.evs) (x:=[⟨0,1,mode,loc,reads.getD s.used 0,ex⟩]) (i:=0)
    simp only[Nat.add_zero] at this
    rw[show ((s.evs.length:Int)).toNat = s.evs.length by omega,this]
    rfl
theorem RIn0.wr {s:RS} (h:RIn0 s) {loc mode:Int} {ex:Bool} {v:Int} {dl:List Int} (hl:loc = 0∨loc = 1) (hm:mode = 0∨mode = 2) (hd:RdL s.evs dl):RIn0 (wrR s loc mode ex v dl):=by
 have h1:RIn0 (evR s ⟨0,2,mode,loc,v,ex⟩ dl):=h.ev1 ⟨rfl,.inr (.inl ⟨rfl,hl,hm⟩)⟩ hd
 unfold wrR
 dsimp only
 split
 ·exact ⟨h1.ev,h1.data,h1.ctrl,h1.frm,h1.now,h1.f8,h1.r8,h1.dl,h1.cl⟩
 ·exact h1
theorem RInv.st {s:RS} (h:RInv s) {V reads x} {left:Int} (hx:InsK left x):RInv (stR V reads s x):=by
 unfold stR
 cases hx with
 | ld md rg lc h1 h2 h3 =>
   rw[if_pos rfl]
   refine ⟨h.b.rd h3 h1,?_⟩
   unfold rdR
   split
   ·exact h.rmw
   ·exact h.rmw.one (e:=⟨0,1,md,lc,reads.getD s.used 0,false⟩) rfl
 | st md lc ex h1 h3 he =>
   rw[if_neg (by simp),if_pos rfl]
   exact ⟨h.b.wr h3 h1 (h.b.of ex),h.rmw.one (e:=⟨0,2,md,lc,V ex s.regs,false⟩) rfl⟩
 | fe md h1 =>
   rw[if_neg (by simp),if_neg (by simp),if_pos rfl]
   exact ⟨h.b.ev1 ⟨rfl,.inr (.inr ⟨rfl,by simp only;omega,by simp only;omega,rfl,rfl,rfl⟩)⟩ (rdL_nil _),h.rmw.one rfl⟩
 | fa md md2 rg lc c h1 h4 h2 h3 h5 =>
   rw[if_neg (by simp),if_neg (by simp),if_neg (by simp),if_pos rfl]
   have hr:=h.b.rd (reads:=reads) (ex:=true) (reg:=rg.toNat) h3 h1
   unfold faR
   dsimp only
   split
   ·rename_i hc
    refine ⟨hr,?_⟩
    unfold rdR
    rw[if_pos hc]
    exact h.rmw
   ·rename_i hc
    have hof:RdL (rdR s reads lc md true rg.toNat).evs (ofR s [(1,c)]):=by
     show RdL _ []
     exact rdL_nil _
    refine ⟨hr.wr h3 h4 (hof.both (hr.at _)),?_⟩
    have he:(rdR s reads lc md true rg.toNat).evs = s.evs ++ [⟨0,1,md,lc,reads.getD s.used 0,true⟩]:=by
     unfold rdR;rw[if_neg hc];rfl
    have hm:(rdR s reads lc md true rg.toNat).rmw = s.rmw:=by
     unfold rdR;rw[if_neg hc];rfl
    generalize rdR s reads lc md true rg.toNat = s1 at he hm
    unfold wrR evR
    dsimp only
    rw[if_pos rfl]
    dsimp only
    rw[he,hm]
    have hn:(((s.evs ++ [(⟨0,1,md,lc,reads.getD s.used 0,true⟩:Ev)]).length:Nat):Int) - 1 = (s.evs.length:Int):=by simp
    have hn2:(((s.evs ++ [(⟨0,1,md,lc,reads.getD s.used 0,true⟩:Ev)]).length:Nat):Int) = (s.evs.length:Int) + 1:=by simp
    rw[hn,hn2]
    exact h.rmw.two rfl rfl rfl rfl rfl rfl
 | se rg ex h2 he =>
   rw[if_neg (by simp),if_neg (by simp),if_neg (by simp),if_neg (by simp),if_pos rfl]
   refine ⟨⟨h.b.ev,h.b.data,h.b.ctrl,fun l hl => ?_,h.b.now,by simpa using h.b.f8,by simpa using h.b.r8,h.b.dl,h.b.cl⟩,h.rmw⟩
   rcases mem_set hl with hl | rfl
   ·exact h.b.frm l hl
   ·exact h.b.of ex
 | sk ex n he h0 h1 =>
   rw[if_neg (by simp),if_neg (by simp),if_neg (by simp),if_neg (by simp),if_neg (by simp)]
   exact ⟨⟨h.b.ev,h.b.data,h.b.ctrl,h.b.frm,h.b.now.both (h.b.of ex),h.b.f8,h.b.r8,h.b.dl,h.b.cl⟩,h.rmw⟩
theorem stR_evs (V reads s x):(stR V reads s x).evs.length≤s.evs.length + 2:=by
 have rd:∀ loc mode ex reg,(rdR s reads loc mode ex reg).evs.length≤s.evs.length + 1:=by
  intro loc mode ex reg
  unfold rdR
  split
  ·exact Nat.le_succ _
  ·show (s.evs ++ [_]).length≤_;simp
 have wr:∀ s:RS,∀ loc mode ex v dl,(wrR s loc mode ex v dl).evs.length = s.evs.length + 1:=by
  intro s loc mode ex v dl
  unfold wrR
  dsimp only
  split<;>(show (s.evs ++ [_]).length = _;simp)
 unfold stR
 split
 ·have:=rd x.lc x.md false x.rg.toNat;omega
 split
 ·rw[wr];omega
 split
 ·show (s.evs ++ [_]).length≤_;simp
 split
 ·unfold faR
  dsimp only
  have:=rd x.lc x.md true x.rg.toNat
  split
  ·omega
  ·rw[wr];omega
 split
 ·exact Nat.le_add_right _ _
 ·exact Nat.le_add_right _ _
theorem RInv.run {V reads th} (hk:∀ k,k < th.length→∃ left,InsK left (th.getD k fence0)):∀ f k s,RInv s→RInv (runR V reads th f k s)∧(runR V reads th f k s).evs.length≤s.evs.length + 2 * f
 | 0,k,s,h => ⟨h,Nat.le_refl _⟩
 | f + 1,k,s,h => by
   unfold runR
   split
   ·rename_i hc
    obtain ⟨left,hx⟩:=hk k hc.1
    have h1:=RInv.run (V:=V) (reads:=reads) hk f (k + skR V s (th.getD k fence0) + 1) _ (h.st (V:=V) (reads:=reads) hx)
    have h2:=stR_evs V reads s (th.getD k fence0)
    exact ⟨h1.1,by omega⟩
   ·exact ⟨h,by omega⟩
end Go.Ab
end
section
set_option linter.unusedVariables false
set_option linter.unusedSimpArgs false
namespace Go.Ab
variable {F:Funs}
theorem oSlice {c:CS} {al:Nat→Bool} {lo id:Nat} {e:Env} {g:G} (esz x l h m):opE c al lo id (.slice esz x l h m) e g = vSlice esz (x.ev e) (evo e l) (evo e h) (evo e m) g:=rfl
theorem evoN (e:Env):evo e none = none:=rfl
theorem evoS (e:Env) (x:Opd):evo e (some x) = some (x.ev e):=rfl
theorem slTo {esz n k:Nat} {cs:List AV} {t:Tok} {g:G} (h:k≤n):vSlice esz (.sl cs n t) none (some (.i .i64 ((k:Nat):Int))) none g = some (.sl (cs.take (k * esz)) k (if t = .rig∧((k:Nat):Int) = ((n:Nat):Int) then .rig else .non),g):=by
 simp only[vSlice,bnd]
 rw[if_pos ⟨by omega,by omega,by omega⟩]
 simp
theorem slFrom {esz n k:Nat} {cs:List AV} {t:Tok} {g:G} (h:k≤n):vSlice esz (.sl cs n t) (some (.i .i64 ((k:Nat):Int))) none none g = some (.sl ((cs.drop (k * esz)).take ((n - k) * esz)) (n - k) (if t = .rig then .rig else .non),g):=by
 simp only[vSlice,bnd]
 rw[if_pos ⟨by omega,by omega,by omega⟩]
 simp only[Int.toNat_natCast,and_true]
theorem intsC_take (l:List Int) (k:Nat):(intsC l).take (k * 1) = intsC (l.take k):=by simp[intsC,List.map_take]
theorem intsC_drop (l:List Int) (k:Nat):(intsC l).drop (k * 1) = intsC (l.drop k):=by simp[intsC,List.map_drop]
theorem intsC_len (l:List Int):(intsC l).length = l.length:=by simp[intsC]
theorem intsC_all {l:List Int} {n:Nat} (h:l.length = n):(intsC l).take (n * 1) = intsC l:=by
 rw[Nat.mul_one,←h,←intsC_len l,List.take_length]
theorem rp_put (h132:F 132 = some A_xref05_Put) (l:List Int) (v:Int) (t:Tok) (hl:l.length≤100000):pureS F 132 [.sl (intsC l) l.length t,.i .i64 v] = some (.sl (intsC (putI l v)) (putI l v).length .non):=by
 refine pure_of h132 ?_
 simp (disch:=omega) only[A_xref05_Put,wp,qa,qb,qc]
 refine blk_cut (fun e g => ∃ k:Nat,k≤l.length∧e 0 = .sl (intsC l) l.length t∧e 1 = .i .i64 v∧e 5 = .i .i64 ((k:Nat):Int)∧(∀ j,j < k→l.getD j 0 < v)∧(k < l.length→¬ l.getD k 0 < v)) ?_ ?_
 ·refine W_loop (fun q e g => ∃ k:Nat,q = l.length - k∧k≤l.length∧e 0 = .sl (intsC l) l.length t∧e 1 = .i .i64 v∧e 5 = .i .i64 ((k:Nat):Int)∧(∀ j,j < k→l.getD j 0 < v)) l.length ?_ ?_
  ·refine ⟨0,rfl,Nat.zero_le _,?_⟩
   simp (disch:=omega) only[wp,qa,qb,qc]
   exact ⟨rfl,fun j hj => absurd hj (Nat.not_lt_zero j)⟩
  ·rintro q e g ⟨k,rfl,hk,e0,e1,e5,hb⟩
   by_cases c1:k < l.length
   ·have c1':((k:Nat):Int) < ((l.length:Nat):Int):=by omega
    have hip:=ints_part c1
    have hw:=succ_wrap (k:=k) (by omega)
    by_cases c2:l.getD k 0 < v
    ·have hb':∀ j,j < k + 1→l.getD j 0 < v:=fun j hj => by
      by_cases hjk:j = k
      ·rw[hjk];exact c2
      ·exact hb j (by omega)
     simp (disch:=omega) only[wp,qa,qb,qc,e0,e1,e5,c1',c2,hip,hw]
     exact ⟨l.length - (k + 1),by omega,k + 1,rfl,by omega,rfl,hb'⟩
    ·simp (disch:=omega) only[wp,qa,qb,qc,e0,e1,e5,c1',c2,hip,hw]
     exact ⟨k,hk,rfl,hb,fun _ => c2⟩
   ·have c1':¬ ((k:Nat):Int) < ((l.length:Nat):Int):=by omega
    simp (disch:=omega) only[wp,qa,qb,qc,e0,e1,e5,c1']
    exact ⟨k,hk,rfl,hb,fun h => absurd h c1⟩
 ·rintro e g ⟨k,hk,e0,e1,e5,hb,hn⟩
  have fin:(k < l.length→l.getD k 0≠v)→putI l v = l.take k ++ v :: l.drop k:=fun h => putI_eq hk hb fun h1 => by have:=hn h1;have:=h h1;omega
  have hlt:(intsC (l.take k)).length = k:=by rw[intsC_len,List.length_take];omega
  have hld:(intsC (l.drop k)).length = l.length - k:=by rw[intsC_len,List.length_drop]
  have hla:(intsC (l.drop k)).take ((l.length - k) * 1) = intsC (l.drop k):=intsC_all (by rw[List.length_drop])
  have hit:(intsC l).take (k * 1) = intsC (l.take k):=intsC_take l k
  have hid:(intsC l).drop (k * 1) = intsC (l.drop k):=intsC_drop l k
  have key:(l.take k ++ v :: l.drop k).length = l.length + 1:=by simp;omega
  by_cases c1:k < l.length
  ·have c1':((k:Nat):Int) < ((l.length:Nat):Int):=by omega
   have hip:=ints_part c1
   rw[hid] at hip
   cases c2:(l.getD k 0 == v) with
   | true =>
     have h1:=putI_has (v:=v) c1 hb (by simpa using c2)
     rw[h1]
     simp (disch:=omega) only[wp,qa,qb,qc,e0,e1,e5,c1',c2,hip,hid]
   | false =>
     have h1:=fin fun _ => by simpa using c2
     by_cases k0:k = 0
     ·subst k0
      simp (disch:=omega) only[wp,qa,qb,qc,e0,e1,e5,c1',c2,hip,oSlice,evoN,evoS,slTo,slFrom,hit,hid,hla,hlt,hld]
      rw[h1,key,show 1 + (l.length - 0) = l.length + 1 by omega]
      simp[intsC]
     ·simp (disch:=omega) only[wp,qa,qb,qc,e0,e1,e5,c1',c2,hip,oSlice,evoN,evoS,slTo,slFrom,hit,hid,hla,hlt,hld]
      rw[h1,key,show k + 1 + (l.length - k) = l.length + 1 by omega]
      simp[intsC]
  ·have c1':¬ ((k:Nat):Int) < ((l.length:Nat):Int):=by omega
   have h1:=fin fun h => absurd h c1
   by_cases k0:k = 0
   ·subst k0
    simp (disch:=omega) only[wp,qa,qb,qc,e0,e1,e5,c1',oSlice,evoN,evoS,slTo,slFrom,hit,hid,hla,hlt,hld]
    rw[h1,key,show 1 + (l.length - 0) = l.length + 1 by omega]
    simp[intsC]
   ·simp (disch:=omega) only[wp,qa,qb,qc,e0,e1,e5,c1',oSlice,evoN,evoS,slTo,slFrom,hit,hid,hla,hlt,hld]
    rw[h1,key,show k + 1 + (l.length - k) = l.length + 1 by omega]
    simp[intsC]
theorem putI_len:∀ {l:List Int} {v:Int},(putI l v).length≤l.length + 1
 | [],v => Nat.le_refl _
 | a :: l,v => by
   unfold putI
   split
   ·have:=putI_len (l:=l) (v:=v)
    simp only[List.length_cons]
    omega
   ·split
    ·exact Nat.le_succ _
    ·exact Nat.le_refl _
end Go.Ab
end
section
set_option linter.unusedVariables false
set_option linter.unusedSimpArgs false
namespace Go.Ab
variable {F:Funs}
theorem o_appM {c:CS} {al:Nat→Bool} {lo id:Nat} {e:Env} {g:G} (esz b x y):opE c al lo id (.appM esz b x y) e g = vAppM al id esz b (x.ev e) (y.ev e) g:=rfl
def apmR (id esz b m ld:Nat) (ds:List AV) (g:G) (ok:Bool):Option (AV × G):=if m = 0∧ld = 0 then some (.sl [] 0 .rig,g) else if 1≤m∧m * b≤2 ^ 46∧m≤2 ^ 62∧ld = m * esz∧ok then some (.ms id 0 m,⟨upd g.hp id (some (.cells ds false)),g.nx⟩) else none
theorem vAppM_rig {al:Nat→Bool} {id esz b m:Nat} {ds:List AV} {t:Tok} {g:G}:vAppM al id esz b (.sl [] 0 .rig) (.sl ds m t) g = apmR id esz b m ds.length ds g (ds.all one):=rfl
theorem apmR_ok {id esz b m ld:Nat} {ds:List AV} {g:G} (h:1≤m∧b≤1000∧m≤1000000∧ld = m * esz):apmR id esz b m ld ds g true = some (.ms id 0 m,⟨upd g.hp id (some (.cells ds false)),g.nx⟩):=by
 obtain ⟨h1,h2,h3,h4⟩:=h
 unfold apmR
 rw[if_neg (by omega)]
 exact if_pos ⟨h1,Nat.le_trans (Nat.mul_le_mul h3 h2) (by omega),Nat.le_trans h3 (by omega),h4,rfl⟩
theorem apmR_0 {id esz b:Nat} {ds:List AV} {g:G} {ok:Bool}:apmR id esz b 0 0 ds g ok = some (.sl [] 0 .rig,g):=if_pos ⟨rfl,rfl⟩
def apmS (id esz bytes b n m ld:Nat) (ds:List AV) (g:G) (ok:Bool):Option Blk→Option (AV × G)
 | some (.cells cs false) => if 1≤n∧1≤m∧(n + m) * bytes≤2 ^ 46∧n + m≤2 ^ 62∧cs.length = n * esz∧ld = m * esz∧ok then
         some (.ms id 0 (n + m),⟨upd (upd g.hp b (some (.tok false))) id (some (.cells (cs ++ ds) false)),g.nx⟩)
    else none
 | _ => none
theorem vAppM_S {al:Nat→Bool} {id esz bytes b n m:Nat} {ds:List AV} {t:Tok} {g:G}:vAppM al id esz bytes (.ms b 0 n) (.sl ds m t) g = apmS id esz bytes b n m ds.length ds g (ds.all one) (selB (al b) (g.hp b)):=by
 unfold vAppM vSrcM
 simp only[rd_S]
 cases selB (al b) (g.hp b) with
 | none => rfl
 | some bl =>
   cases bl with
   | cells cs ro => cases ro<;>rfl
   | map es => rfl
   | tok l => rfl
theorem apmS_ok {id esz bytes b n m ld:Nat} {cs ds:List AV} {g:G} (h:1≤n∧1≤m∧bytes≤1000∧n + m≤1000000∧cs.length = n * esz∧ld = m * esz):apmS id esz bytes b n m ld ds g true (some (.cells cs false)) = some (.ms id 0 (n + m),⟨upd (upd g.hp b (some (.tok false))) id (some (.cells (cs ++ ds) false)),g.nx⟩):=by
 obtain ⟨h1,h2,h3,h4,h5,h6⟩:=h
 have h7:(n + m) * bytes≤2 ^ 46:=Nat.le_trans (Nat.mul_le_mul h4 h3) (by omega)
 exact if_pos ⟨h1,h2,h7,Nat.le_trans h4 (by omega),h5,h6,rfl⟩
def apcS (id esz bytes b k e n m ld:Nat) (ds:List AV) (g:G) (ok:Bool):Option Blk→Option (AV × G)
 | some (.cells cs false) => if e = esz∧1≤n∧k≤n∧1≤m∧(k + m) * bytes≤2 ^ 46∧k + m≤2 ^ 62∧cs.length = n * esz∧ld = m * esz∧ok then
         some (.ms id 0 (k + m),⟨upd (upd g.hp b (some (.tok false))) id (some (.cells (cs.take (k * esz) ++ ds) false)),g.nx⟩)
    else none
 | _ => none
theorem vAppM_C {al:Nat→Bool} {id esz bytes b k e n m:Nat} {ds:List AV} {t:Tok} {g:G}:vAppM al id esz bytes (.mc b k e n) (.sl ds m t) g = apcS id esz bytes b k e n m ds.length ds g (ds.all one) (selB (al b) (g.hp b)):=by
 unfold vAppM vSrcM
 simp only[rd_S]
 cases selB (al b) (g.hp b) with
 | none => rfl
 | some bl =>
   cases bl with
   | cells cs ro => cases ro<;>rfl
   | map es => rfl
   | tok l => rfl
theorem apcS_ok {id esz bytes b k n m ld:Nat} {cs ds:List AV} {g:G} (h:1≤n∧k≤n∧1≤m∧bytes≤1000∧k + m≤1000000∧cs.length = n * esz∧ld = m * esz):apcS id esz bytes b k esz n m ld ds g true (some (.cells cs false)) = some (.ms id 0 (k + m),⟨upd (upd g.hp b (some (.tok false))) id (some (.cells (cs.take (k * esz) ++ ds) false)),g.nx⟩):=by
 obtain ⟨h1,h2,h3,h4,h5,h6,h8⟩:=h
 have h7:(k + m) * bytes≤2 ^ 46:=Nat.le_trans (Nat.mul_le_mul h5 h4) (by omega)
 exact if_pos ⟨rfl,h1,h2,h3,h7,Nat.le_trans h5 (by omega),h6,h8,rfl⟩
theorem slHiM {esz b n:Nat} {ki:IntKind} {z:Int} {g:G} (h1:1≤n) (h2:0≤z) (h3:z≤(n:Int)):vSlice esz (.ms b 0 n) none (some (.i ki z)) none g = some (.mc b z.toNat esz n,g):=if_pos ⟨rfl,h1,h2,h3⟩
def evE (regs:List Int):List (Int × Int)→List Int→List Int
 | [],st => st
 | p :: l,st => if p.1 = 1 then evE regs l (p.2 :: st) else if p.1 = 3 then evE regs l (doX p.2 (st.getD 1 0) (st.getD 0 0) :: st.drop 2)
   else evE regs l ((if p.2 < regs.length then regs.getD p.2.toNat 0 else 0) :: st)
theorem evE_cons (regs p l st):evE regs (p :: l) st = if p.1 = 1 then evE regs l (p.2 :: st) else if p.1 = 3 then evE regs l (doX p.2 (st.getD 1 0) (st.getD 0 0) :: st.drop 2)
  else evE regs l ((if p.2 < regs.length then regs.getD p.2.toNat 0 else 0) :: st):=by simp only[evE]
theorem evE_nil (regs st):evE regs [] st = st:=by simp only[evE]
def evX (ex:List (Int × Int)) (regs:List Int):Int:=if chkX ex = true then (evE regs ex []).headD 0 else 0
theorem chkX_inv {ex:List (Int × Int)} (h:chkX ex = true):chkG ex 0 = some 1∧ex.length≤9:=by
 unfold chkX at h
 split at h
 ·rename_i d hd
  simp only[Bool.and_eq_true,decide_eq_true_eq] at h
  exact ⟨by rw[hd,h.1],h.2⟩
 ·cases h
def StkAt (st:List Int) (v:AV) (g:G):Prop:=(st = []∧v = .sl [] 0 .rig)∨(st≠[]∧∃ id,v = .ms id 0 st.length∧g.hp id = some (.cells (intsC st.reverse) false)∧id < g.nx)
structure EvI (ex:List (Int × Int)) (regs:List Int) (k:Nat) (st:List Int) (e:Env) (g:G):Prop where
 hk:k≤ex.length
 hs:st.length≤k
 e0:e 0 = .sl (tkC ex) ex.length .non
 e1:e 1 = .sl (intsC regs) regs.length .non
 e5:StkAt st (e 5) g
 e6:e 6 = .i .i64 ((k:Nat):Int)
 hc:chkG (ex.drop k) st.length = some 1
 ev:evE regs (ex.drop k) st = evE regs ex []
theorem ints_p1 {l:List Int} {k:Nat} (h:k < l.length):part (intsC l) (k * 1) none = some (.i .i64 (l.getD k 0)):=by
 have:=ints_part h
 simpa [part] using this
theorem sp_eval (h115:F 115 = some A_xref02_Eval) (h109:F 109 = some A_xref02_Check) (h125:F 125 = some A_xref02_word) (h128:F 128 = some A_xref02_Do) (ex:List (Int × Int)) (regs:List Int) (hl:ex.length≤1000000) (hr:regs.length≤1000000):
  pureS F 115 [exV ex,.sl (intsC regs) regs.length .non] = some (.i .i64 (evX ex regs)):=by
 refine pure_of h115 ?_
 have hck:=sp_exCheck h109 h125 ex hl
 unfold exV at hck ⊢
 unfold evX
 cases c0:chkX ex with
 | false =>
   rw[c0] at hck
   simp (disch:=omega) only[A_xref02_Eval,wp,qa,qb,qc,hck,if_false]
 | true =>
   rw[c0] at hck
   obtain ⟨hc0,hl9⟩:=chkX_inv c0
   rw[if_pos rfl]
   simp (disch:=omega) only[A_xref02_Eval,wp,qa,qb,qc,hck]
   refine blk_cut (fun e g => ∃ (v:Int) (id:Nat),e 5 = .ms id 0 1∧g.hp id = some (.cells [.i .i64 v] false)∧id < g.nx∧v = (evE regs ex []).headD 0) ?_ ?_
   ·refine W_loop (fun q e g => ∃ (k:Nat) (st:List Int),q = ex.length - k∧EvI ex regs k st e g) ex.length ?_ ?_
    ·exact ⟨0,[],rfl,Nat.zero_le _,Nat.le_refl _,rfl,rfl,.inl ⟨rfl,rfl⟩,rfl,hc0,rfl⟩
    ·rintro q e g ⟨k,st,rfl,hk,hsl,e0,e1,e5,e6,hc,hev⟩
     by_cases c1:k < ex.length
     ·have c1':((k:Nat):Int) < ((ex.length:Nat):Int):=by omega
      have hkd:=tk_k c1
      have hvd:=tk_v c1
      have hl2:=tk_l c1
      have hw:=succ_wrap (k:=k) (by omega)
      have hdc:=drop_cons (d:=((0,0):Int × Int)) c1
      rw[hdc] at hc hev
      rw[chkG_cons] at hc
      rw[evE_cons] at hev
      generalize ex.getD k (0,0) = p at hkd hvd hc hev
      cases c2:wdB p with
      | false => rw[c2] at hc;simp at hc
      | true =>
        rw[c2] at hc
        rw[if_pos rfl] at hc
        have next:∀ (st':List Int) (e':Env) (g':G),chkG (ex.drop (k + 1)) st'.length = some 1→evE regs (ex.drop (k + 1)) st' = evE regs ex []→st'.length≤k + 1→e' 0 = .sl (tkC ex) ex.length .non→e' 1 = .sl (intsC regs) regs.length .non→StkAt st' (e' 5) g'→e' 6 = .i .i64 ((k + 1:Nat):Int) →
          ∃ m',m' < ex.length - k∧∃ (k:Nat) (st:List Int),m' = ex.length - k∧EvI ex regs k st e' g':=
         fun st' e' g' a1 a2 a3 a4 a5 a6 a7 => ⟨ex.length - (k + 1),by omega,k + 1,st',rfl,⟨by omega,a3,a4,a5,a6,a7,a1,a2⟩⟩
        by_cases c3:p.1 = 1
        ·have c3a:(p.1 == 1) = true:=by simpa using c3
         rw[if_neg (by omega)] at hc
         rw[if_pos c3] at hev
         rcases e5 with ⟨rfl,e5⟩ | ⟨hne,b,e5,hb,hlt⟩
         ·simp (disch:=omega) only[wp,qa,qb,qc,e0,e1,e5,e6,c1',hkd,hvd,c3a,hw,o_appM,vAppM_rig,apmR_ok]
          refine next [p.2] _ _ hc hev ?_ ?_ ?_ ?_ ?_
          ·simp
          ·exact e0
          ·exact e1
          ·refine .inr ⟨by simp,_,rfl,?_,?_⟩
           ·simp (disch:=omega) only[upd_same,upd_ne];rfl
           ·dsimp only;omega
          ·rfl
         ·have h1:1≤st.length:=by cases st with | nil => exact absurd rfl hne | cons _ _ => simp
          have hcl:(intsC st.reverse).length = st.length * 1:=by rw[intsC_len,List.length_reverse,Nat.mul_one]
          simp (disch:=omega) only[wp,qa,qb,qc,e0,e1,e5,e6,c1',hkd,hvd,c3a,hw,hb,o_appM,vAppM_S,apmS_ok]
          refine next (p.2 :: st) _ _ hc hev ?_ ?_ ?_ ?_ ?_
          ·simp;omega
          ·exact e0
          ·exact e1
          ·refine .inr ⟨by simp,_,rfl,?_,?_⟩
           ·simp (disch:=omega) only[upd_same,upd_ne];simp[intsC]
           ·dsimp only;omega
          ·rfl
        ·have c3a:(p.1 == 1) = false:=by simpa using c3
         rw[if_neg c3] at hev
         by_cases c4:p.1 = 3
         ·have c4a:(p.1 == 3) = true:=by simpa using c4
          rw[if_pos c4] at hc hev
          by_cases c5:st.length < 2
          ·rw[if_pos c5] at hc;cases hc
          ·rw[if_neg c5] at hc
           obtain ⟨y,x,r,rfl⟩:∃ y x r,st = y :: x :: r:=by
            match st,c5 with
            | [],h => exact absurd (by simp) h
            | [_],h => exact absurd (by simp) h
            | y :: x :: r,_ => exact ⟨y,x,r,rfl⟩
           rcases e5 with ⟨h,_⟩ | ⟨hne,b,e5,hb,hlt⟩
           ·cases h
           ·have hrev:(y :: x :: r).reverse = r.reverse ++ [x,y]:=by simp
            rw[hrev] at hb
            simp only[List.length_cons] at e5 hc hsl
            have hcl:(intsC (r.reverse ++ [x,y])).length = (r.length + 1 + 1) * 1:=by rw[intsC_len];simp
            have hpx:part (intsC (r.reverse ++ [x,y])) (r.length * 1) none = some (.i .i64 x):=by
             rw[ints_p1 (by simp),List.getD_eq_getElem?_getD,List.getElem?_append_right (by simp)];simp
            have hpy:part (intsC (r.reverse ++ [x,y])) ((r.length + 1) * 1) none = some (.i .i64 y):=by
             rw[ints_p1 (by simp),List.getD_eq_getElem?_getD,List.getElem?_append_right (by simp)];simp
            have hs2:IntKind.i64.wrap (((r.length + 1 + 1:Nat):Int) - 2) = ((r.length:Nat):Int):=by rw[i64_wrap (by omega) (by omega)];omega
            have hs1:IntKind.i64.wrap (((r.length + 1 + 1:Nat):Int) - 1) = ((r.length + 1:Nat):Int):=by rw[i64_wrap (by omega) (by omega)];omega
            have hdo:=sp_do h128 p.2 x y
            simp (disch:=omega) only[wp,qa,qb,qc,e0,e1,e5,e6,c1',hkd,hvd,c3a,c4a,hw,hb,hs1,hs2,hpx,hpy,hdo,oSlice,evoN,evoS,slHiM,o_appM,vAppM_C,apcS_ok]
            refine next (doX p.2 x y :: r) _ _ hc hev ?_ ?_ ?_ ?_ ?_
            ·simp;omega
            ·exact e0
            ·exact e1
            ·refine .inr ⟨by simp,_,rfl,?_,?_⟩
             ·simp (disch:=omega) only[upd_same,upd_ne]
              rw[show (intsC (r.reverse ++ [x,y])).take (r.length * 1) = intsC r.reverse by rw[intsC_take,List.take_append_of_le_length (by simp),List.take_of_length_le (by simp)]]
              simp[intsC]
             ·dsimp only;omega
            ·rfl
         ·have c4a:(p.1 == 3) = false:=by simpa using c4
          rw[if_neg c4] at hc hev
          have hv0:0≤p.2∧p.2 < 8:=by
           unfold wdB at c2
           rw[if_neg c3,if_neg c4] at c2
           split at c2
           ·simpa using c2
           ·cases c2
          by_cases c6:p.2 < (regs.length:Int)
          ·rw[if_pos c6] at hev
           have hpr:=ints_part (l:=regs) (k:=p.2.toNat) (by omega)
           rcases e5 with ⟨rfl,e5⟩ | ⟨hne,b,e5,hb,hlt⟩
           ·simp (disch:=omega) only[wp,qa,qb,qc,e0,e1,e5,e6,c1',hkd,hvd,c3a,c4a,c6,hpr,hw,o_appM,vAppM_rig,apmR_ok]
            refine next [regs.getD p.2.toNat 0] _ _ hc hev ?_ ?_ ?_ ?_ ?_
            ·simp
            ·exact e0
            ·exact e1
            ·refine .inr ⟨by simp,_,rfl,?_,?_⟩
             ·simp (disch:=omega) only[upd_same,upd_ne];rfl
             ·dsimp only;omega
            ·rfl
           ·have h1:1≤st.length:=by cases st with | nil => exact absurd rfl hne | cons _ _ => simp
            have hcl:(intsC st.reverse).length = st.length * 1:=by rw[intsC_len,List.length_reverse,Nat.mul_one]
            simp (disch:=omega) only[wp,qa,qb,qc,e0,e1,e5,e6,c1',hkd,hvd,c3a,c4a,c6,hpr,hw,hb,o_appM,vAppM_S,apmS_ok]
            refine next (regs.getD p.2.toNat 0 :: st) _ _ hc hev ?_ ?_ ?_ ?_ ?_
            ·simp;omega
            ·exact e0
            ·exact e1
            ·refine .inr ⟨by simp,_,rfl,?_,?_⟩
             ·simp (disch:=omega) only[upd_same,upd_ne];simp[intsC]
             ·dsimp only;omega
            ·rfl
          ·rw[if_neg c6] at hev
           rcases e5 with ⟨rfl,e5⟩ | ⟨hne,b,e5,hb,hlt⟩
           ·simp (disch:=omega) only[wp,qa,qb,qc,e0,e1,e5,e6,c1',hkd,hvd,c3a,c4a,c6,hw,o_appM,vAppM_rig,apmR_ok]
            refine next [0] _ _ hc hev ?_ ?_ ?_ ?_ ?_
            ·simp
            ·exact e0
            ·exact e1
            ·refine .inr ⟨by simp,_,rfl,?_,?_⟩
             ·simp (disch:=omega) only[upd_same,upd_ne];rfl
             ·dsimp only;omega
            ·rfl
           ·have h1:1≤st.length:=by cases st with | nil => exact absurd rfl hne | cons _ _ => simp
            have hcl:(intsC st.reverse).length = st.length * 1:=by rw[intsC_len,List.length_reverse,Nat.mul_one]
            simp (disch:=omega) only[wp,qa,qb,qc,e0,e1,e5,e6,c1',hkd,hvd,c3a,c4a,c6,hw,hb,o_appM,vAppM_S,apmS_ok]
            refine next (0 :: st) _ _ hc hev ?_ ?_ ?_ ?_ ?_
            ·simp;omega
            ·exact e0
            ·exact e1
            ·refine .inr ⟨by simp,_,rfl,?_,?_⟩
             ·simp (disch:=omega) only[upd_same,upd_ne];simp[intsC]
             ·dsimp only;omega
            ·rfl
     ·have c1':¬ ((k:Nat):Int) < ((ex.length:Nat):Int):=by omega
      obtain rfl:k = ex.length:=by omega
      rw[List.drop_length] at hc hev
      rw[chkG_nil] at hc
      rw[evE_nil] at hev
      have hs1:st.length = 1:=Option.some.inj hc
      obtain ⟨v,rfl⟩:∃ v,st = [v]:=List.length_eq_one_iff.1 hs1
      rcases e5 with ⟨h,_⟩ | ⟨hne,b,e5,hb,hlt⟩
      ·cases h
      ·simp (disch:=omega) only[wp,qa,qb,qc,e0,e1,e5,e6,c1']
       exact ⟨v,b,rfl,hb,by omega,by rw[←hev];rfl⟩
   ·rintro e g ⟨v,id,e5,hid,hlt,rfl⟩
    simp (disch:=omega) only[wp,qa,qb,qc,e5,hid]
end Go.Ab
end
section
set_option linter.unusedVariables false
namespace Go.Ab
theorem o_clr {c:CS} {al:Nat→Bool} {lo id:Nat} {e:Env} {g:G} (esz z x):opE c al lo id (.clr esz z x) e g = vClr al esz z (x.ev e) g:=rfl
def clrS (esz zl b off n:Nat) (zs:List AV) (g:G):Option Blk→Option (AV × G)
 | some (.cells cs false) => if 0 < n∧zl = esz∧off + n * esz≤cs.length then some (.tup [],⟨upd g.hp b (some (.cells (splice cs off zs) false)),g.nx⟩) else none
 | _ => none
theorem vClr_S {al:Nat→Bool} {esz b off n:Nat} {z:List AV} {g:G}:vClr al esz z (.ms b off n) g = clrS esz z.length b off n (List.replicate n z).flatten g (selB (al b) (g.hp b)):=by
 unfold vClr
 simp only[rd_S]
 cases selB (al b) (g.hp b) with
 | none => rfl
 | some bl =>
   cases bl with
   | cells cs ro => cases ro<;>rfl
   | _ => rfl
theorem clrS_ok {esz zl b off n:Nat} {zs cs:List AV} {g:G} (h:0 < n∧zl = esz∧off + n * esz≤cs.length):clrS esz zl b off n zs g (some (.cells cs false)) = some (.tup [],⟨upd g.hp b (some (.cells (splice cs off zs) false)),g.nx⟩):=if_pos h
theorem o_cutM {c:CS} {al:Nat→Bool} {lo id:Nat} {e:Env} {g:G} (esz x y):opE c al lo id (.cutM esz x y) e g = vCutM al id esz (x.ev e) (y.ev e) g:=rfl
def cutS (id esz b n:Nat) (k:Int) (g:G):Option Blk→Option (AV × G)
 | some (.cells cs false) => if 0≤k∧k≤n∧1≤n∧cs.length = n * esz then some (.ms id 0 k.toNat,⟨upd (upd g.hp b (some (.tok false))) id (some (.cells (cs.take (k.toNat * esz)) false)),g.nx⟩) else none
 | _ => none
theorem vCutM_S {al:Nat→Bool} {id esz b n:Nat} {ki:IntKind} {k:Int} {g:G}:vCutM al id esz (.ms b 0 n) (.i ki k) g = cutS id esz b n k g (selB (al b) (g.hp b)):=by
 unfold vCutM
 simp only[rd_S]
 cases selB (al b) (g.hp b) with
 | none => rfl
 | some bl =>
   cases bl with
   | cells cs ro => cases ro<;>rfl
   | _ => rfl
theorem cutS_ok {id esz b n:Nat} {k:Int} {cs:List AV} {g:G} (h:0≤k∧k≤n∧1≤n∧cs.length = n * esz):cutS id esz b n k g (some (.cells cs false)) = some (.ms id 0 k.toNat,⟨upd (upd g.hp b (some (.tok false))) id (some (.cells (cs.take (k.toNat * esz)) false)),g.nx⟩):=if_pos h
end Go.Ab
end
section
set_option linter.unusedVariables false
set_option linter.unusedSimpArgs false
namespace Go.Ab
variable {F:Funs}
theorem retV_rr {rs:List ARes} {P:AV→Prop} {e:Env} {g:G}:retV rs P .ret e g = (∃ v,(match resE rs e g with | some v0 => frz g.hp depth v0 | none => none) = some v∧P v):=rfl
structure ILL (C1:List AV) (n1:Nat) (t1:Tok) (e1v:AV) (P:Nat→Prop) (k:Nat) (e:Env) (g:G):Prop where
 hk:k≤n1
 e0:e 0 = .sl C1 n1 t1
 e1:e 1 = e1v
 e5:e 5 = .i .i64 ((k:Nat):Int)
 h:P k
theorem sp_sameI (h296:F 296 = some A_xref06_SameInts) (x y:List Int) (hx:x.length≤1000000) (hy:y.length≤1000000) (t1 t2:Tok):pureS F 296 [.sl (intsC x) x.length t1,.sl (intsC y) y.length t2] = some (.b (decide (x = y))):=by
 refine pure_of h296 ?_
 by_cases c0:x.length = y.length
 ·have c0':(((x.length:Nat):Int) != ((y.length:Nat):Int)) = false:=by simp[c0]
  simp (disch:=omega) only[A_xref06_SameInts,wp,qa,qb,qc,c0']
  refine blk_cutR (fun e g => x = y) ?_ ?_
  ·refine W_loop (fun q e g => ∃ k,q = x.length - k∧ILL (intsC x) x.length t1 (.sl (intsC y) y.length t2) (fun k => x.take k = y.take k) k e g) x.length ?_ ?_
   ·exact ⟨0,rfl,⟨Nat.zero_le _,rfl,rfl,rfl,rfl⟩⟩
   ·rintro q e g ⟨k,rfl,hk,e0,e1,e5,ha⟩
    by_cases c1:k < x.length
    ·have c1':((k:Nat):Int) < ((x.length:Nat):Int):=by omega
     have hp1:=ints_part (l:=x) (k:=k) c1
     have hp2:=ints_part (l:=y) (k:=k) (by omega)
     have hw:=succ_wrap (k:=k) (by omega)
     by_cases c2:x.getD k 0 = y.getD k 0
     ·have c2':(x.getD k 0 != y.getD k 0) = false:=by simpa using c2
      simp (disch:=omega) only[wp,qa,qb,qc,e0,e1,e5,c1',hp1,hp2,c2',hw]
      refine ⟨x.length - (k + 1),by omega,k + 1,rfl,⟨by omega,e0,e1,rfl,?_⟩⟩
      have c4:k < y.length:=by omega
      rw[List.getD_eq_getElem?_getD,List.getD_eq_getElem?_getD,List.getElem?_eq_getElem c1,List.getElem?_eq_getElem c4] at c2
      have c5:x[k] = y[k]:=c2
      rw[List.take_succ_eq_append_getElem c1,List.take_succ_eq_append_getElem c4,ha,c5]
     ·have c2':(x.getD k 0 != y.getD k 0) = true:=by simpa using c2
      have:decide (x = y) = false:=decide_eq_false fun h => c2 (by rw[h])
      simp (disch:=omega) only[wp,qa,qb,qc,e0,e1,e5,c1',hp1,hp2,c2',this]
    ·have c1':¬ ((k:Nat):Int) < ((x.length:Nat):Int):=by omega
     simp (disch:=omega) only[wp,qa,qb,qc,e0,e1,e5,c1']
     rwa [List.take_of_length_le (by omega),List.take_of_length_le (by omega)] at ha
  ·rintro e g rfl
   simp (disch:=omega) only[wp,qa,qb,qc]
 ·have c0':(((x.length:Nat):Int) != ((y.length:Nat):Int)) = true:=by simp;omega
  have:decide (x = y) = false:=decide_eq_false fun h => c0 (by rw[h])
  simp (disch:=omega) only[A_xref06_SameInts,wp,qa,qb,qc,c0',this]
end Go.Ab
end
section
set_option linter.unusedVariables false
set_option linter.unusedSimpArgs false
namespace Go.Ab
variable {F:Funs}
theorem slLoM {esz b n k:Nat} {ki:IntKind} {g:G} (h:0 < k∧k < n∧0 < esz):vSlice esz (.ms b 0 n) (some (.i ki ((k:Nat):Int))) none none g = some (.ms b (k * esz) (n - k),g):=by
 show (if 0 < ((k:Nat):Int)∧((k:Nat):Int) < ((n:Nat):Int)∧0 < esz then _ else _) = _
 rw[if_pos ⟨by omega,by omega,h.2.2⟩,Int.toNat_natCast,Nat.zero_add]
theorem pred_wrap {k:Nat} (h0:1≤k) (h:k < 9000000000000000000):IntKind.i64.wrap ((k:Int) - 1) = ((k - 1:Nat):Int):=by rw[i64_wrap (by omega) (by omega)];omega
end Go.Ab
end
section
set_option linter.unusedVariables false
set_option linter.unusedSimpArgs false
namespace Go.Ab
variable {F:Funs}
structure SrtI (F:Funs):Prop where
 nan:F 266 = some A_cmp_isNaN_int
 less:F 359 = some A_cmp_Less_int
 sort:F 371 = some A_slices_Sort_lint_int
 cpt:F 372 = some A_slices_Compact_lint_int
 pdq:F 420 = some A_slices_pdqsortOrdered_int
 ins:F 424 = some A_slices_insertionSortOrdered_int
 cont:F 369 = some A_slices_Contains_lint_int
 idx:F 419 = some A_slices_Index_lint_int
 len:∀ n:Nat,n≤12→∃ v:Int,pureS F 421 [.i .u64 ((n:Nat):Int)] = some (.i .i64 v)
theorem oConv {c:CS} {al:Nat→Bool} {lo id:Nat} {e:Env} {g:G} (k x):opE c al lo id (.conv k x) e g = vConv k (x.ev e) g:=rfl
theorem conv_i (k k':IntKind) (n:Int) (g:G):vConv k (.i k' n) g = some (.i k (k.wrap n),g):=rfl
theorem sp_lessI (A:SrtI F) (a b:Int):pureS F 359 [.i .i64 a,.i .i64 b] = some (.b (decide (a < b))):=by
 refine pure_of A.less ?_
 have h:=sp_isnan A.nan
 simp (disch:=omega) only[A_cmp_Less_int,wp,qa,qb,qc,h]
theorem ints_ptR {l:List Int} {o k:Nat} (h:k < l.length) (ho:o = k):part (intsC l) o none = some (.i .i64 (l.getD k 0)):=by
 subst ho
 simp only[part,intsC,List.getElem?_map,List.getElem?_eq_getElem h,Option.map_some,List.getD_eq_getElem?_getD,Option.getD_some]
theorem intsC_st (l:List Int) (k o:Nat) (ho:o = k) (x:Int):(intsC l).set o (.i .i64 x) = intsC (l.set k x):=by
 subst ho
 unfold intsC
 rw[List.map_set]
theorem intsC_ln (l:List Int):(intsC l).length = l.length:=by simp[intsC]
theorem blk_cut2 {F:Funs} {c rest:ACode} {a b:Nat} {e:Env} {g:G} {Q:Out→Env→G→Prop} (M:Env→G→Prop) (h1:W F c e g (blkQ a (blkQ b (midQ M)))) (h2:∀ e g,M e g→W F rest e g Q):W F c e g (blkQ a (blkQ b (thenQ F rest Q))):=by
 have key:∀ o e g,blkQ b (midQ M) o e g→blkQ b (thenQ F rest Q) o e g:=by
  intro o e g h
  cases o with
  | nrm => exact h2 e g h
  | ret => exact h.elim
  | ext n =>
    have h:if n = b then midQ M .nrm e g else midQ M (.ext n) e g:=h
    show if n = b then thenQ F rest Q .nrm e g else thenQ F rest Q (.ext n) e g
    by_cases hn:n = b
    ·rw[if_pos hn] at h ⊢;exact h2 e g h
    ·rw[if_neg hn] at h;exact h.elim
 refine W_mono h1 fun o e g h => ?_
 cases o with
 | nrm =>
   have h:blkQ b (midQ M) .nrm e g:=h
   exact key _ e g h
 | ret =>
   have h:blkQ b (midQ M) .ret e g:=h
   exact key _ e g h
 | ext n =>
   have h:if n = a then blkQ b (midQ M) .nrm e g else blkQ b (midQ M) (.ext n) e g:=h
   show if n = a then blkQ b (thenQ F rest Q) .nrm e g else blkQ b (thenQ F rest Q) (.ext n) e g
   by_cases hn:n = a
   ·rw[if_pos hn] at h ⊢;exact key _ e g h
   ·rw[if_neg hn] at h ⊢;exact key _ e g h
def SoOut (L:List Int) (id:Nat) (v:AV) (g:G):Prop:=v = .tup []∧id < g.nx∧∃ M:List Int,g.hp id = some (.cells (intsC M) false)∧M.length = L.length∧SrI M∧∀ x,x∈M↔x∈L
structure IsO (L:List Int) (id i:Nat) (M:List Int) (e:Env) (g:G):Prop where
 hi:1≤i
 e0:e 0 = .ms id 0 L.length
 e1:e 1 = .i .i64 0
 e2:e 2 = .i .i64 ((L.length:Nat):Int)
 e6:e 6 = .i .i64 ((i:Nat):Int)
 hb:g.hp id = some (.cells (intsC M) false)
 hlt:id < g.nx
 hM:M.length = L.length
 hm:∀ x,x∈M↔x∈L
 hs:∀ p q,p < q→q < i→q < L.length→M.getD p 0≤M.getD q 0
structure IsM (L:List Int) (id i:Nat) (M:List Int) (e:Env) (g:G):Prop where
 o:IsO L id (i + 1) M (upd e 6 (.i .i64 ((i + 1:Nat):Int))) g
 e6:e 6 = .i .i64 ((i:Nat):Int)
structure IsJ (L:List Int) (id i j:Nat) (M:List Int) (e:Env) (g:G):Prop where
 hi:1≤i∧i < L.length∧j≤i
 e0:e 0 = .ms id 0 L.length
 e1:e 1 = .i .i64 0
 e2:e 2 = .i .i64 ((L.length:Nat):Int)
 e6:e 6 = .i .i64 ((i:Nat):Int)
 e7:e 7 = .i .i64 ((j:Nat):Int)
 hb:g.hp id = some (.cells (intsC M) false)
 hlt:id < g.nx
 hM:M.length = L.length
 hm:∀ x,x∈M↔x∈L
 hs:InsJ M i j
theorem rp_insI (A:SrtI F) {L:List Int} (h1:1≤L.length) (h2:L.length≤1000000) {g:G} {id:Nat} (hid:g.hp id = some (.cells (intsC L) false)) (hlt:id < g.nx):
  ∃ v g',callS F 424 [.ms id 0 L.length,.i .i64 0,.i .i64 ((L.length:Nat):Int)] g = some (v,g')∧SoOut L id v g':=by
 refine raw_of A.ins ?_
 have h01:IntKind.i64.wrap ((0:Int) + 1) = ((1:Nat):Int):=rfl
 simp (disch:=omega) only[A_slices_insertionSortOrdered_int,wp,qa,qb,qc,gl,h01]
 refine W_loop (fun q e g => ∃ (i:Nat) (M:List Int),q = L.length + 1 - i∧IsO L id i M e g) (L.length + 1 - 1) ?_ ?_
 ·exact ⟨1,L,rfl,Nat.le_refl _,rfl,rfl,rfl,rfl,hid,by first | omega | (dsimp only;omega),rfl,fun _ => Iff.rfl,fun p q h3 h4 => by omega⟩
 ·rintro q e g ⟨i,M,rfl,hi,e0,e1,e2,e6,hb,hlt,hM,hm,hs⟩
  by_cases c1:i < L.length
  ·have c1':((i:Nat):Int) < ((L.length:Nat):Int):=by omega
   have hwi:=succ_wrap (k:=i) (by omega)
   simp (disch:=omega) only[wp,qa,qb,qc,gl,e0,e1,e2,e6,c1']
   refine blk_cut2 (fun e g => ∃ M,IsM L id i M e g) ?_ ?_
   ·refine W_loop (fun q e g => ∃ (j:Nat) (M:List Int),q = j∧IsJ L id i j M e g) i ?_ ?_
    ·refine ⟨i,M,rfl,⟨hi,c1,Nat.le_refl _⟩,e0,e1,e2,e6,rfl,hb,by first | omega | (dsimp only;omega),hM,hm,fun p q hpq hq hne => hs p q hpq (by omega) (by omega)⟩
    ·rintro q e g ⟨j,M,hqj,⟨hi1,hi2,hji⟩,e0,e1,e2,e6,e7,hb,hlt,hM,hm,hs⟩
     have out:j = 0∨M.getD (j - 1) 0≤M.getD j 0→∀ g':G,g'.hp = g.hp→g.nx≤g'.nx→∀ e':Env,e' 0 = e 0→e' 1 = e 1→e' 2 = e 2→IsO L id (i + 1) M (upd e' 6 (.i .i64 ((i + 1:Nat):Int))) g':=by
      intro hj g' hg hn e' f0 f1 f2
      refine ⟨by omega,f0.trans e0,f1.trans e1,f2.trans e2,rfl,by rw[hg];exact hb,by omega,hM,hm,fun p q hpq hq hl => insJ_done hs hj p q hpq (by omega)⟩
     by_cases c2:0 < j
     ·have c2':(0:Int) < ((j:Nat):Int):=by omega
      have hp1:part (intsC M) (j * 1) none = some (.i .i64 (M.getD j 0)):=ints_ptR (by omega) (by omega)
      have hp2:part (intsC M) ((j - 1) * 1) none = some (.i .i64 (M.getD (j - 1) 0)):=ints_ptR (by omega) (by omega)
      have hwj:=pred_wrap (k:=j) (by omega) (by omega)
      have hls:=sp_lessI A (M.getD j 0) (M.getD (j - 1) 0)
      have hln:(intsC M).length = L.length:=by rw[intsC_ln,hM]
      have hln2:∀ o x,((intsC M).set o x).length = L.length:=fun o x => by rw[List.length_set,hln]
      by_cases c3:M.getD j 0 < M.getD (j - 1) 0
      ·rw[decide_eq_true c3] at hls
       have hset1:=intsC_st M j (j * 1) (by omega) (M.getD (j - 1) 0)
       have hset2:=intsC_st (M.set j (M.getD (j - 1) 0)) (j - 1) ((j - 1) * 1) (by omega) (M.getD j 0)
       have hln3:(intsC (M.set j (M.getD (j - 1) 0))).length = L.length:=by rw[intsC_ln,List.length_set,hM]
       simp (disch:=omega) only[wp,qa,qb,qc,gl,e0,e1,e2,e6,e7,c2',hp1,hp2,hwj,hls,hb,hln,hset1,hset2,hln3]
       refine ⟨j - 1,by omega,j - 1,swpI M j (j - 1),rfl,⟨hi1,hi2,by omega⟩,e0,e1,e2,e6,rfl,upd_same ..,by first | omega | (dsimp only;omega),by rw[swpI_len,hM],fun x => (swpI_mem (by omega) (by omega) x).trans (hm x),insJ_swap hs c2 hji (by omega) c3⟩
      ·rw[decide_eq_false c3] at hls
       simp (disch:=omega) only[wp,qa,qb,qc,gl,e0,e1,e2,e6,e7,c2',hp1,hp2,hwj,hls,hb]
       refine ⟨M,⟨out (.inr (by omega)) _ ?_ ?_ _ ?_ ?_ ?_,e6⟩⟩<;>first | rfl | omega | (dsimp only;omega)
     ·have c2':¬ (0:Int) < ((j:Nat):Int):=by omega
      simp (disch:=omega) only[wp,qa,qb,qc,gl,e0,e1,e2,e6,e7,c2']
      refine ⟨M,⟨out (.inl (by omega)) _ ?_ ?_ _ ?_ ?_ ?_,e6⟩⟩<;>first | rfl | omega | (dsimp only;omega)
   ·rintro e g ⟨M,⟨hi',e0,e1,e2,_,hb,hlt,hM,hm,hs⟩,e6⟩
    have e0:e 0 = .ms id 0 L.length:=e0
    have e1:e 1 = .i .i64 0:=e1
    have e2:e 2 = .i .i64 ((L.length:Nat):Int):=e2
    simp (disch:=omega) only[wp,qa,qb,qc,gl,e6,hwi]
    exact ⟨L.length + 1 - (i + 1),by omega,i + 1,M,rfl,hi',e0,e1,e2,rfl,hb,by first | omega | (dsimp only;omega),hM,hm,hs⟩
  ·have c1':¬ ((i:Nat):Int) < ((L.length:Nat):Int):=by omega
   simp (disch:=omega) only[wp,qa,qb,qc,gl,e2,e6,c1']
   exact ⟨_,rfl,rfl,by first | omega | (dsimp only;omega),M,hb,hM,srI_at fun p q hpq hq => hs p q hpq (by omega) (by omega),hm⟩
end Go.Ab
end
section
set_option linter.unusedVariables false
set_option linter.unusedSimpArgs false
namespace Go.Ab
variable {F:Funs}
structure TkS where
 t0:Tok
 t1:Tok
 td:Tok
 tc:Tok
 ti:Tok
 tr:Tok
 tn:Tok
 tt:Tok
 fs:List Tok
def frC (frm:List (List Int)) (ts:List Tok):List AV:=(List.range 8).map fun r => .sl (intsC (frm.getD r [])) (frm.getD r []).length (ts.getD r .non)
def stT (s:RS) (T:TkS):List AV:=frC s.frm T.fs ++ [.sl (intsC s.now) s.now.length T.tn,.sl [] 0 T.tt,.b s.short]
def stC (s:RS) (R:Nat) (reads:List Int) (T:TkS):List AV:=
 .sl (evsC s.evs) s.evs.length T.t0 :: .sl (pairsC s.rmw) s.rmw.length T.t1 :: .sl (pairsC s.data) s.data.length T.td :: .sl (pairsC s.ctrl) s.ctrl.length T.tc :: .sl [] 0 T.ti :: .i .i64 (s.used:Int) :: .ms R 0 8 :: .sl (intsC reads) reads.length T.tr :: stT s T
structure SOk (s:RS) (R S:Nat) (reads:List Int) (T:TkS) (g:G):Prop where
 st:g.hp S = some (.cells (stC s R reads T) false)
 rg:g.hp R = some (.cells (intsC s.regs) false)
 l0:Live g 6 T.t0
 l1:Live g 2 T.t1
 ne:∀ i,T.t0≠.own i 6∨T.t1≠.own i 2
 sx:S < g.nx
 rx:R < g.nx
 sr:S≠R
 fs:T.fs.length = 8
 f8:s.frm.length = 8
 r8:s.regs.length = 8
structure Frm (S R:Nat) (g g':G):Prop where
 nx:g.nx≤g'.nx
 cells:∀ b cs ro,b≠S→b≠R→b < g.nx→g.hp b = some (.cells cs ro)→g'.hp b = some (.cells cs ro)
end Go.Ab
end
section
set_option linter.unusedVariables false
set_option linter.unusedSimpArgs false
namespace Go.Ab
variable {F:Funs}
theorem SOk.put {s s1:RS} {R S:Nat} {reads:List Int} {T T1:TkS} {g:G} (k:SOk s R S reads T g) (hr:s1.regs = s.regs) (hf:s1.frm.length = 8) (h0:T1.t0 = T.t0) (h1:T1.t1 = T.t1) (hfs:T1.fs.length = 8) {hp':Nat→Option Blk} {m:Nat} (hS:hp' S = some (.cells (stC s1 R reads T1) false)) (ho:∀ i,i < g.nx→i≠S→hp' i = g.hp i) (hm:g.nx≤m):SOk s1 R S reads T1 ⟨hp',m⟩:=by
 obtain ⟨st,rg,l0,l1,ne,sx,rx,sr,fs,f8,r8⟩:=k
 refine ⟨hS,by show hp' R = _;rw[ho R rx (fun h => sr h.symm),hr];exact rg,?_,?_,by rw[h0,h1];exact ne,Nat.lt_of_lt_of_le sx hm,Nat.lt_of_lt_of_le rx hm,sr,hfs,hf,by rw[hr];exact r8⟩
 ·rw[h0]
  rcases l0 with h | ⟨τ,h,hτ,lτ⟩
  ·exact .inl h
  ·exact .inr ⟨τ,h,by show hp' τ = _;rw[ho τ lτ fun h => by rw[h,st] at hτ;cases hτ];exact hτ,Nat.lt_of_lt_of_le lτ hm⟩
 ·rw[h1]
  rcases l1 with h | ⟨τ,h,hτ,lτ⟩
  ·exact .inl h
  ·exact .inr ⟨τ,h,by show hp' τ = _;rw[ho τ lτ fun h => by rw[h,st] at hτ;cases hτ];exact hτ,Nat.lt_of_lt_of_le lτ hm⟩
theorem SOk.old {s:RS} {R S:Nat} {reads:List Int} {T:TkS} {g:G} (k:SOk s R S reads T g) {hp':Nat→Option Blk} {m:Nat} (ho:∀ i,i < g.nx→hp' i = g.hp i) (hm:g.nx≤m):SOk s R S reads T ⟨hp',m⟩:=
 k.put rfl k.f8 rfl rfl k.fs (by rw[ho S k.sx];exact k.st) (fun i hi _ => ho i hi) hm
theorem Frm.trans {S R:Nat} {g g1 g2:G} (h:Frm S R g g1) (k:Frm S R g1 g2):Frm S R g g2:=
 ⟨Nat.le_trans h.nx k.nx,fun b cs ro h1 h2 h3 h4 => k.cells b cs ro h1 h2 (Nat.lt_of_lt_of_le h3 h.nx) (h.cells b cs ro h1 h2 h3 h4)⟩
theorem Frm.of {S R:Nat} {g:G} {hp':Nat→Option Blk} {m:Nat} (hm:g.nx≤m) (ho:∀ i,i < g.nx→i≠S→i≠R→hp' i = g.hp i):Frm S R g ⟨hp',m⟩:=
 ⟨hm,fun b cs ro h1 h2 h3 h4 => by show hp' b = _;rw[ho b h3 h1 h2];exact h4⟩
end Go.Ab
end
section
set_option linter.unusedVariables false
set_option linter.unusedSimpArgs false
namespace Go.Ab
variable {F:Funs}
def natC (l:List Nat):List AV:=l.map fun (r:Nat) => .i .i64 ((r:Nat):Int)
theorem ints_flat (l:List Int):(intsC l).all flat = true:=by
 unfold intsC
 rw[List.all_map]
 exact List.all_eq_true.2 fun x _ => rfl
end Go.Ab
end
section
set_option linter.unusedVariables false
set_option linter.unusedSimpArgs false
namespace Go.Ab
variable {F:Funs}
def zR:List AV:=[.sl [] 0 .rig,.sl [] 0 .rig,.sl [] 0 .rig,.sl [] 0 .rig,.sl [] 0 .rig,.i .i64 0,.sl [] 0 .rig]
structure DoI (F:Funs) (V:List (Int × Int)→List Int→Int) (th:List Ins) (reads:List Int) (R S k:Nat) (s:RS) (T:TkS) (e:Env) (g:G):Prop where
 hk:k≤th.length
 e0:e 0 = .sl (insLC th) th.length .non
 e4:e 4 = .mp 0 0
 e6:e 6 = .mp S 0
 e7:e 7 = .i .i64 ((k:Nat):Int)
 h0:g.hp 0 = some (.cells zR false)
 ok:SOk s R S reads T g
 s0:0 < S
 r0:0 < R
 inv:RInv s
 run:runR V reads th (th.length - k) k s = doR V th reads
 used:s.used≤k
 evs:s.evs.length≤2 * k
theorem DoI.mv {V:List (Int × Int)→List Int→Int} {th:List Ins} {reads:List Int} {R S k:Nat} {s:RS} {T:TkS} {e e':Env} {g:G} {m:Nat} (I:DoI F V th reads R S k s T e g) (h0:e' 0 = e 0) (h4:e' 4 = e 4) (h6:e' 6 = e 6) (h7:e' 7 = e 7) (hm:g.nx≤m):DoI F V th reads R S k s T e' ⟨g.hp,m⟩:=
 ⟨I.hk,h0.trans I.e0,h4.trans I.e4,h6.trans I.e6,h7.trans I.e7,I.h0,I.ok.old (fun i hi => rfl) hm,I.s0,I.r0,I.inv,I.run,I.used,I.evs⟩
end Go.Ab
end
section
set_option linter.unusedVariables false
set_option linter.unusedSimpArgs false
namespace Go.Ab
variable {F:Funs}
def rgS (l:List Int) (p:Int × Int):List Int:=if p.1 = 2 then putI l p.2 else l
def regsX (ex:List (Int × Int)):List Int:=ex.foldl rgS []
theorem foldl_take {α β:Type} {f:β→α→β} {b:β} {l:List α} {d:α} {k:Nat} (h:k < l.length):(l.take (k + 1)).foldl f b = f ((l.take k).foldl f b) (l.getD k d):=by
 rw[List.take_add_one,List.getElem?_eq_getElem h,List.getD_eq_getElem?_getD,List.getElem?_eq_getElem h,List.foldl_append];rfl
theorem slEq {cs ds:List AV} {n m:Nat} {t:Tok} (h:cs = ds) (h2:n = m):∃ w,AV.sl cs n t = AV.sl ds m w:=⟨t,by rw[h,h2]⟩
structure RgI (ex:List (Int × Int)) (i:Nat) (w:Tok) (e:Env):Prop where
 hi:i≤ex.length
 e0:e 0 = .sl (tkC ex) ex.length .non
 e3:e 3 = .sl (intsC ((ex.take i).foldl rgS [])) ((ex.take i).foldl rgS []).length w
 e4:e 4 = .i .i64 ((i:Nat):Int)
structure RgJ (ex:List (Int × Int)) (l:List Int) (v:Int) (i k:Nat) (w:Tok) (e:Env):Prop where
 hk:k≤l.length
 e0:e 0 = .sl (tkC ex) ex.length .non
 e3:e 3 = .sl (intsC l) l.length w
 e4:e 4 = .i .i64 ((i:Nat):Int)
 e5:e 5 = .i .i64 ((k:Nat):Int)
 hb:∀ j,j < k→l.getD j 0 < v
theorem regsX_len (ex:List (Int × Int)):∀ k,k≤ex.length→((ex.take k).foldl rgS []).length≤k
 | 0,_ => Nat.le_refl _
 | k + 1,h => by
   rw[foldl_take (d:=(0,0)) (by omega)]
   have ih:=regsX_len ex k (by omega)
   have h1:=putI_len (l:=(ex.take k).foldl rgS []) (v:=(ex.getD k (0,0)).2)
   generalize (ex.take k).foldl rgS [] = l at ih h1 ⊢
   unfold rgS
   split<;>omega
theorem sp_regs (h126:F 126 = some A_xref02_Regs) (ex:List (Int × Int)) (hl:ex.length≤100000):pureS F 126 [exV ex] = some (.sl (intsC (regsX ex)) (regsX ex).length .non):=by
 refine pure_of h126 ?_
 unfold exV
 simp (disch:=omega) only[A_xref02_Regs,wp,qa,qb,qc]
 refine blk_cut (fun e g => ∃ w,e 3 = .sl (intsC (regsX ex)) (regsX ex).length w) ?_ ?_
 ·refine W_loop (fun q e g => ∃ (i:Nat) (w:Tok),q = ex.length - i∧RgI ex i w e) ex.length ?_ ?_
  ·exact ⟨0,.rig,rfl,Nat.zero_le _,rfl,rfl,rfl⟩
  ·rintro q e g ⟨i,w,rfl,hi,e0,e3,e4⟩
   by_cases c0:i < ex.length
   ·have c0':((i:Nat):Int) < ((ex.length:Nat):Int):=by omega
    have hkd:=tk_k c0
    have hvd:=tk_v c0
    have hl2:=tk_l c0
    have hwi:=succ_wrap (k:=i) (by omega)
    have hll:=regsX_len ex i hi
    have hnx:=foldl_take (f:=rgS) (b:=[]) (d:=((0,0):Int × Int)) c0
    generalize ex.getD i (0,0) = p at hkd hvd hnx
    generalize (ex.take i).foldl rgS [] = l at e3 hll hnx
    have next:∀ (e':Env) (g':G),e' 0 = .sl (tkC ex) ex.length .non→(∃ w',e' 3 = .sl (intsC (rgS l p)) (rgS l p).length w')→e' 4 = .i .i64 ((i + 1:Nat):Int) →
      ∃ m',m' < ex.length - i∧∃ (i:Nat) (w:Tok),m' = ex.length - i∧RgI ex i w e':=
     fun e' g' a1 ⟨w',a2⟩ a3 => ⟨ex.length - (i + 1),by omega,i + 1,w',rfl,⟨by omega,a1,by rw[hnx];exact a2,a3⟩⟩
    by_cases c1:p.1 = 2
    ·have c1a:(p.1 != 2) = false:=by simpa using c1
     have hrg:rgS l p = putI l p.2:=if_pos c1
     rw[hrg] at next
     generalize p.2 = v at hvd next
     simp (disch:=omega) only[wp,qa,qb,qc,e0,e3,e4,c0',hkd,c1a]
     refine blk_cut (fun e g => ∃ k:Nat,RgJ ex l v i k w e∧(k < l.length→¬ l.getD k 0 < v)) ?_ ?_
     ·refine W_loop (fun q e g => ∃ k:Nat,q = l.length - k∧RgJ ex l v i k w e) l.length ?_ ?_
      ·exact ⟨0,rfl,Nat.zero_le _,e0,e3,e4,rfl,fun j hj => absurd hj (Nat.not_lt_zero j)⟩
      ·rintro q e g ⟨k,rfl,hk,e0,e3,e4,e5,hb⟩
       by_cases c2:k < l.length
       ·have c2':((k:Nat):Int) < ((l.length:Nat):Int):=by omega
        have hip:=ints_part c2
        have hw:=succ_wrap (k:=k) (by omega)
        by_cases c3:l.getD k 0 < v
        ·have hb':∀ j,j < k + 1→l.getD j 0 < v:=fun j hj => by
          by_cases hjk:j = k
          ·rw[hjk];exact c3
          ·exact hb j (by omega)
         simp (disch:=omega) only[wp,qa,qb,qc,e0,e3,e4,e5,c0',c2',hip,hvd,c3,hw]
         exact ⟨l.length - (k + 1),by omega,k + 1,rfl,⟨by omega,e0,e3,e4,rfl,hb'⟩⟩
        ·simp (disch:=omega) only[wp,qa,qb,qc,e0,e3,e4,e5,c0',c2',hip,hvd,c3]
         exact ⟨k,⟨hk,e0,e3,e4,e5,hb⟩,fun _ => c3⟩
       ·have c2':¬ ((k:Nat):Int) < ((l.length:Nat):Int):=by omega
        simp (disch:=omega) only[wp,qa,qb,qc,e0,e3,e4,e5,c2']
        exact ⟨k,⟨hk,e0,e3,e4,e5,hb⟩,fun h => absurd h c2⟩
     ·rintro e g ⟨k,⟨hk,e0,e3,e4,e5,hb⟩,hn⟩
      have fin:(k < l.length→l.getD k 0≠v)→putI l v = l.take k ++ v :: l.drop k:=fun h => putI_eq hk hb fun h1 => by have:=hn h1;have:=h h1;omega
      have hlt:(intsC (l.take k)).length = k:=by rw[intsC_len,List.length_take];omega
      have hld:(intsC (l.drop k)).length = l.length - k:=by rw[intsC_len,List.length_drop]
      have hla:(intsC (l.drop k)).take ((l.length - k) * 1) = intsC (l.drop k):=intsC_all (by rw[List.length_drop])
      have hit:(intsC l).take (k * 1) = intsC (l.take k):=intsC_take l k
      have hid:(intsC l).drop (k * 1) = intsC (l.drop k):=intsC_drop l k
      have key:(l.take k ++ v :: l.drop k).length = l.length + 1:=by simp;omega
      by_cases c2:k < l.length
      ·have c2':((k:Nat):Int) < ((l.length:Nat):Int):=by omega
       have hip:=ints_part c2
       rw[hid] at hip
       cases c3:(l.getD k 0 == v) with
       | true =>
         have h1:=putI_has (v:=v) c2 hb (by simpa using c3)
         rw[h1] at next
         simp (disch:=omega) only[wp,qa,qb,qc,e0,e3,e4,e5,c0',c2',hip,hid,hvd,c3,hwi]
         refine next _ g ?_ ?_ ?_
         ·exact e0
         ·exact ⟨w,e3⟩
         ·rfl
       | false =>
         have h1:=fin fun _ => by simpa using c3
         rw[h1] at next
         by_cases k0:k = 0
         ·subst k0
          simp (disch:=omega) only[wp,qa,qb,qc,e0,e3,e4,e5,c0',c2',hip,hvd,c3,hwi,oSlice,evoN,evoS,slTo,slFrom,hit,hid,hla,hlt,hld]
          refine next _ g ?_ ?_ ?_
          ·exact e0
          ·exact slEq (by simp[intsC]) (by rw[key];omega)
          ·rfl
         ·simp (disch:=omega) only[wp,qa,qb,qc,e0,e3,e4,e5,c0',c2',hip,hvd,c3,hwi,oSlice,evoN,evoS,slTo,slFrom,hit,hid,hla,hlt,hld]
          refine next _ g ?_ ?_ ?_
          ·exact e0
          ·exact slEq (by simp[intsC]) (by rw[key];omega)
          ·rfl
      ·have c2':¬ ((k:Nat):Int) < ((l.length:Nat):Int):=by omega
       have h1:=fin fun h => absurd h c2
       rw[h1] at next
       by_cases k0:k = 0
       ·subst k0
        simp (disch:=omega) only[wp,qa,qb,qc,e0,e3,e4,e5,c0',c2',hvd,hwi,oSlice,evoN,evoS,slTo,slFrom,hit,hid,hla,hlt,hld]
        refine next _ g ?_ ?_ ?_
        ·exact e0
        ·exact slEq (by simp[intsC]) (by rw[key];omega)
        ·rfl
       ·simp (disch:=omega) only[wp,qa,qb,qc,e0,e3,e4,e5,c0',c2',hvd,hwi,oSlice,evoN,evoS,slTo,slFrom,hit,hid,hla,hlt,hld]
        refine next _ g ?_ ?_ ?_
        ·exact e0
        ·exact slEq (by simp[intsC]) (by rw[key];omega)
        ·rfl
    ·have c1a:(p.1 != 2) = true:=by simpa using c1
     have hrg:rgS l p = l:=if_neg c1
     rw[hrg] at next
     simp (disch:=omega) only[wp,qa,qb,qc,e0,e3,e4,c0',hkd,c1a,hwi]
     refine next _ g ?_ ?_ ?_
     ·exact e0
     ·exact ⟨w,e3⟩
     ·rfl
   ·have c0':¬ ((i:Nat):Int) < ((ex.length:Nat):Int):=by omega
    obtain rfl:i = ex.length:=by omega
    rw[List.take_length] at e3
    simp (disch:=omega) only[wp,qa,qb,qc,e0,e3,e4,c0']
    exact ⟨w,rfl⟩
 ·rintro e g ⟨w,e3⟩
  simp (disch:=omega) only[wp,qa,qb,qc,e3]
theorem exOk_regs {ex:List (Int × Int)} (h:ExOk ex):intsC (regsX ex) = natC (exR ex)∧(regsX ex).length = (exR ex).length∧(∀ r∈exR ex,r < 8)∧(exR ex).length≤8∧ex.length≤3:=by
 obtain ⟨a,b,m,a0,a3,b0,b3,m0,m3,rfl⟩:=h
 have ha:(a.toNat:Int) = a:=Int.toNat_of_nonneg a0
 unfold exM
 split
 ·simp[regsX,rgS,exR,intsC,natC]
 split
 ·simp[regsX,rgS,exR,intsC,natC,putI,ha];omega
 split
 ·simp[regsX,rgS,exR,intsC,natC,putI,ha];omega
 split
 ·simp[regsX,rgS,exR,intsC,natC,putI,ha];omega
 split
 ·simp[regsX,rgS,exR,intsC,natC,putI,ha];omega
 ·simp[regsX,rgS,exR,intsC,natC]
structure ExF (F:Funs):Prop where
 check:F 109 = some A_xref02_Check
 word:F 125 = some A_xref02_word
 eval:F 115 = some A_xref02_Eval
 do_:F 128 = some A_xref02_Do
 regs:F 126 = some A_xref02_Regs
end Go.Ab
end
section
set_option linter.unusedVariables false
set_option linter.unusedSimpArgs false
namespace Go.Ab
variable {F:Funs}
theorem sp_may (h:F 331 = some A_expr_may) (p:Int × Int):pureS F 331 [.agg [.i .i64 p.1,.i .i64 p.2]] = some (.b (wdB p)):=by
 refine pure_of h ?_
 unfold wdB
 by_cases c1:p.1 = 1
 ·by_cases c2:-2147483648≤p.2
  ·by_cases c3:p.2≤2147483647
   ·have c3':p.2 < 2147483648:=by omega
    simp (disch:=omega) only[A_expr_may,wp,qa,qb,qc,c1,c2,c3,c3',if_true,Int.reduceBEq]
   ·have c3':¬ p.2 < 2147483648:=by omega
    simp (disch:=omega) only[A_expr_may,wp,qa,qb,qc,c1,c2,c3,c3',if_true,Int.reduceBEq]
  ·simp (disch:=omega) only[A_expr_may,wp,qa,qb,qc,c1,c2,if_true,Int.reduceBEq]
 have c1':(p.1 == 1) = false:=by simpa using c1
 by_cases c4:p.1 = 2
 ·by_cases c2:0≤p.2
  ·by_cases c3:p.2 < 8<;>simp (disch:=omega) only[A_expr_may,wp,qa,qb,qc,c4,c2,c3,if_true,if_false,Int.reduceBEq,Int.reduceEq]
  ·simp (disch:=omega) only[A_expr_may,wp,qa,qb,qc,c4,c2,if_true,if_false,Int.reduceBEq,Int.reduceEq]
 have c4':(p.1 == 2) = false:=by simpa using c4
 by_cases c5:p.1 = 3
 ·by_cases c2:1≤p.2
  ·by_cases c3:p.2≤6<;>simp (disch:=omega) only[A_expr_may,wp,qa,qb,qc,c5,c2,c3,if_true,if_false,Int.reduceBEq,Int.reduceEq]
  ·simp (disch:=omega) only[A_expr_may,wp,qa,qb,qc,c5,c2,if_true,if_false,Int.reduceBEq,Int.reduceEq]
 have c5':(p.1 == 3) = false:=by simpa using c5
 simp (disch:=omega) only[A_expr_may,wp,qa,qb,qc,c1,c4,c5,c1',c4',c5',if_false]
theorem sp_exprCheck (h308:F 308 = some A_expr_Check) (h331:F 331 = some A_expr_may) (ex:List (Int × Int)) (hl:ex.length≤1000000):pureS F 308 [exV ex] = some (.b (chkX ex)):=by
 refine pure_of h308 ?_
 have s2:∀ b1 b2 c1 c2:AV,splice [b1,b2] 0 [c1,c2] = [c1,c2]:=fun _ _ _ _ => rfl
 unfold exV
 simp (disch:=omega) only[A_expr_Check,wp,qa,qb,qc]
 refine blk_cutR (fun e g => ∃ d:Nat,e 0 = .sl (tkC ex) ex.length .non∧e 3 = .i .i64 ((d:Nat):Int)∧chkG ex 0 = some d) ?_ ?_
 ·refine W_loop (fun q e g => ∃ k d:Nat,q = ex.length - k∧k≤ex.length∧d≤k∧e 0 = .sl (tkC ex) ex.length .non∧e 6 = .sl (tkC ex) ex.length .non∧e 7 = .i .i64 ((ex.length:Nat):Int)∧e 3 = .i .i64 ((d:Nat):Int)∧e 8 = .i .i64 ((k:Nat):Int)∧chkG ex 0 = chkG (ex.drop k) d) ex.length ?_ ?_
  ·refine ⟨0,0,rfl,Nat.zero_le _,Nat.le_refl _,?_⟩
   simp (disch:=omega) only[wp,qa,qb,qc]
   exact ⟨rfl,rfl,rfl⟩
  ·rintro q e g ⟨k,d,rfl,hk,hd,e0,e6,e7,e3,e8,hc⟩
   by_cases c1:k < ex.length
   ·have c1':((k:Nat):Int) < ((ex.length:Nat):Int):=by omega
    have ha:=tk_ag c1
    have hw:=succ_wrap (k:=k) (by omega)
    have hwd:=succ_wrap (k:=d) (by omega)
    have hsp:=sp_may h331 (ex.getD k (0,0))
    have hdc:=drop_cons (d:=((0,0):Int × Int)) c1
    rw[hdc,chkG_cons] at hc
    generalize ex.getD k (0,0) = p at ha hsp hc
    cases c2:wdB p with
    | false =>
      rw[c2] at hsp hc
      simp (disch:=omega) only[wp,qa,qb,qc,e0,e3,e6,e7,e8,c1',ha,hsp,s2,part_22,frz_ag2]
      unfold chkX
      rw[hc]
      simp
    | true =>
      rw[c2] at hsp hc
      rw[if_pos rfl] at hc
      by_cases c3:p.1 = 3
      ·rw[if_pos c3] at hc
       have c3':(p.1 == 3) = true:=by simpa using c3
       by_cases c4:d < 2
       ·rw[if_pos c4] at hc
        have c4':((d:Nat):Int) < 2:=by omega
        simp (disch:=omega) only[wp,qa,qb,qc,e0,e3,e6,e7,e8,c1',ha,hsp,c3',c4',s2,part_22,frz_ag2]
        unfold chkX
        rw[hc]
       ·rw[if_neg c4] at hc
        have c4':¬ ((d:Nat):Int) < 2:=by omega
        have hs:IntKind.i64.wrap (((d:Nat):Int) - 1) = ((d - 1:Nat):Int):=by rw[i64_wrap (by omega) (by omega)];omega
        simp (disch:=omega) only[wp,qa,qb,qc,e0,e3,e6,e7,e8,c1',ha,hsp,c3',c4',hs,hw,s2,part_22,frz_ag2]
        exact ⟨ex.length - (k + 1),by omega,k + 1,d - 1,rfl,by omega,by omega,rfl,rfl,hc⟩
      ·rw[if_neg c3] at hc
       have c3':(p.1 == 3) = false:=by simpa using c3
       simp (disch:=omega) only[wp,qa,qb,qc,e0,e3,e6,e7,e8,c1',ha,hsp,c3',hw,hwd,s2,part_22,frz_ag2]
       exact ⟨ex.length - (k + 1),by omega,k + 1,d + 1,rfl,by omega,by omega,rfl,rfl,hc⟩
   ·have c1':¬ ((k:Nat):Int) < ((ex.length:Nat):Int):=by omega
    obtain rfl:k = ex.length:=by omega
    rw[List.drop_length] at hc
    simp (disch:=omega) only[wp,qa,qb,qc,e0,e3,e6,e7,e8,c1']
    exact ⟨d,rfl,hc⟩
 ·rintro e g ⟨d,e0,e3,hc⟩
  unfold chkX
  rw[hc]
  by_cases c1:d = 1
  ·subst c1
   have c2:((((1:Nat):Int)) == 1) = true:=rfl
   by_cases c3:ex.length≤9
   ·have c3':((ex.length:Nat):Int)≤9:=by omega
    simp (disch:=omega) only[wp,qa,qb,qc,e0,e3,c2,c3,c3']
   ·have c3':¬ ((ex.length:Nat):Int)≤9:=by omega
    simp (disch:=omega) only[wp,qa,qb,qc,e0,e3,c2,c3,c3']
  ·have c2:(((d:Nat):Int) == 1) = false:=by simp;omega
   simp (disch:=omega) only[wp,qa,qb,qc,e0,e3,c1,c2]
structure ExprF (F:Funs):Prop where
 may:F 331 = some A_expr_may
 check:F 308 = some A_expr_Check
 eval:F 358 = some A_expr_Eval
 ops:F 361 = some A_expr_ops
 o1:F 362 = some A_expr_ops_1
 o2:F 363 = some A_expr_ops_2
 o3:F 364 = some A_expr_ops_3
 o4:F 365 = some A_expr_ops_4
 o5:F 366 = some A_expr_ops_5
 one:F 367 = some A_expr_one
 o6:F 368 = some A_expr_ops_6
theorem sp_xone (h:F 367 = some A_expr_one) (b:Bool):pureS F 367 [.b b] = some (.i .i64 (if b then 1 else 0)):=by
 refine pure_of h ?_
 cases b<;>simp (disch:=omega) only[A_expr_one,wp,qa,qb,qc]<;>rfl
def opN (o:Int):Nat:=if o = 6 then 368 else (361 + o.toNat)
theorem sp_opN (A:ExprF F) {o:Int} (h1:1≤o) (h6:o≤6) (a b:Int):pureS F (opN o) [.i .i64 a,.i .i64 b] = some (.i .i64 (doX o a b)):=by
 have hs:o = 1∨o = 2∨o = 3∨o = 4∨o = 5∨o = 6:=by omega
 rcases hs with rfl | rfl | rfl | rfl | rfl | rfl
 ·refine pure_of A.o1 ?_
  simp (disch:=omega) only[A_expr_ops_1,wp,qa,qb,qc];rfl
 ·refine pure_of A.o2 ?_
  simp (disch:=omega) only[A_expr_ops_2,wp,qa,qb,qc];rfl
 ·refine pure_of A.o3 ?_
  simp (disch:=omega) only[A_expr_ops_3,wp,qa,qb,qc];rfl
 ·refine pure_of A.o4 ?_
  simp (disch:=omega) only[A_expr_ops_4,wp,qa,qb,qc,b_xor];rfl
 ·refine pure_of A.o5 ?_
  have h:=sp_xone A.one (a == b)
  simp (disch:=omega) only[A_expr_ops_5,wp,qa,qb,qc,h]
  simp[doX]
 ·refine pure_of A.o6 ?_
  have h:=sp_xone A.one (decide (a < b))
  simp (disch:=omega) only[A_expr_ops_6,wp,qa,qb,qc,h]
  simp[doX]
def opsV:AV:=.agg [.nilf,.fn 362 [] [],.fn 363 [] [],.fn 364 [] [],.fn 365 [] [],.fn 366 [] [],.fn 368 [] []]
theorem sp_ops (h:F 361 = some A_expr_ops):pureS F 361 [] = some opsV:=by
 refine pure_of h ?_
 have r7:∀ x:AV,List.replicate 7 x = [x,x,x,x,x,x,x]:=fun _ => rfl
 have s7:∀ b1 b2 b3 b4 b5 b6 b7 c1 c2 c3 c4 c5 c6 c7:AV,splice [b1,b2,b3,b4,b5,b6,b7] 0 [c1,c2,c3,c4,c5,c6,c7] = [c1,c2,c3,c4,c5,c6,c7]:=fun _ _ _ _ _ _ _ _ _ _ _ _ _ _ => rfl
 have cf:∀ k,cellsOf (.fn k [] []) = [.fn k [] []]:=fun _ => rfl
 have z:∀ hp,frz hp depth opsV = some opsV:=fun hp => by
  show frz hp (8 + 1) _ = _
  simp only[opsV,frz,frzL]
  rfl
 have on:one .nilf = true:=rfl
 have of:∀ k,one (.fn k [] []) = true:=fun _ => rfl
 simp (disch:=omega) only[A_expr_ops,wp,qa,qb,qc,r7,s7,cf,on,of,List.length_cons,List.length_nil]
 have hr:∀ (e:Env) (g:G),e 0 = .mp 0 0→g.hp 0 = some (.cells [.nilf,.fn 362 [] [],.fn 363 [] [],.fn 364 [] [],.fn 365 [] [],.fn 366 [] [],.fn 368 [] []] false)→resE [ARes.cell 0 (some 7)] e g = some opsV:=by
  intro e g h1 h2
  simp only[resE,resAll,resOne,h1,h2]
  rfl
 rw[hr _ _ (by simp (disch:=omega) only[wp,qa,qb,qc]) (by simp (disch:=omega) only[wp,qa,qb,qc])]
 exact z _
theorem ops_at {o:Int} (h1:1≤o) (h6:o≤6) (g:G):vIdx 7 1 (some 1) opsV (.i .i64 o) g = some (.agg [.fn (opN o) [] []],g):=by
 have hs:o = 1∨o = 2∨o = 3∨o = 4∨o = 5∨o = 6:=by omega
 rcases hs with rfl | rfl | rfl | rfl | rfl | rfl<;>rfl
end Go.Ab
end
section
set_option linter.unusedVariables false
set_option linter.unusedSimpArgs false
namespace Go.Ab
variable {F:Funs}
structure CiO (L:List Int) (id:Nat) (k:Nat) (e:Env) (g:G):Prop where
 hk:1≤k∧k≤L.length
 e0:e 0 = .ms id 0 L.length
 e3:e 3 = .i .i64 ((k:Nat):Int)
 hb:g.hp id = some (.cells (intsC L) false)
 hlt:id < g.nx
 hc:cptI (L.take k) = L.take k
structure CiJ (L:List Int) (id k:Nat) (j i:Nat) (M:List Int) (e:Env) (g:G):Prop where
 hj:k + j≤L.length∧1≤j∧1≤k
 hi:1≤i∧i + 1≤k + j
 e0:e 0 = .ms id 0 L.length
 e3:e 3 = .i .i64 ((i:Nat):Int)
 e4:e 4 = .ms id (k * 1) (L.length - k)
 e5:e 5 = .i .i64 ((j:Nat):Int)
 hb:g.hp id = some (.cells (intsC M) false)
 hlt:id < g.nx
 hM:M.length = L.length
 ha:M.take i = cptI (L.take (k + j))
 hd:M.drop i = L.drop i
structure CiM (L:List Int) (id i:Nat) (M:List Int) (e:Env) (g:G):Prop where
 hi:1≤i∧i + 1≤L.length
 e0:e 0 = .ms id 0 L.length
 e3:e 3 = .i .i64 ((i:Nat):Int)
 hb:g.hp id = some (.cells (intsC M) false)
 hlt:id < g.nx
 hM:M.length = L.length
 ha:M.take i = cptI L
structure CiE (L:List Int) (id:Nat) (e:Env) (g:G):Prop where
 e0:e 0 = .ms id 0 L.length
 hb:g.hp id = some (.cells (intsC L) false)
 hc:cptI L = L
def CiOut (L:List Int) (v:AV) (g:G):Prop:=∃ id,v = .ms id 0 (cptI L).length∧g.hp id = some (.cells (intsC (cptI L)) false)
theorem getI_drop {L M:List Int} {i k:Nat} (h:M.drop i = L.drop i) (hk:i≤k):M.getD k 0 = L.getD k 0:=by
 have e:∀ X:List Int,X.getD k 0 = (X.drop i).getD (k - i) 0:=fun X => by
  rw[List.getD_eq_getElem?_getD,List.getD_eq_getElem?_getD,List.getElem?_drop,show i + (k - i) = k by omega]
 rw[e,e L,h]
theorem rp_cptI (A:SrtI F) {L:List Int} (h1:1≤L.length) (h2:L.length≤1000000) {g:G} {id:Nat} (hid:g.hp id = some (.cells (intsC L) false)) (hlt:id < g.nx):
  ∃ v g',callS F 372 [.ms id 0 L.length] g = some (v,g')∧CiOut L v g':=by
 refine raw_of A.cpt ?_
 by_cases c0:L.length < 2
 ·have c0':((L.length:Nat):Int) < 2:=by omega
  simp (disch:=omega) only[A_slices_Compact_lint_int,wp,qa,qb,qc,gl,c0']
  have hL:cptI L = L:=by
   match L,c0 with
   | [],_ => rfl
   | [a],_ => rfl
   | a :: b :: l,h => exact absurd h (by simp)
  exact ⟨_,rfl,id,by rw[hL],by rw[hL];exact hid⟩
 ·have c0':¬ ((L.length:Nat):Int) < 2:=by omega
  simp (disch:=omega) only[A_slices_Compact_lint_int,wp,qa,qb,qc,gl,c0']
  refine blk_cutR (fun e g => CiE L id e g) ?_ ?_
  ·refine W_loop (fun q e g => ∃ k,q = L.length - k∧CiO L id k e g) (L.length - 1) ?_ ?_
   ·exact ⟨1,rfl,⟨Nat.le_refl _,h1⟩,rfl,rfl,hid,by first | omega | (dsimp only;omega),cptI_one h1⟩
   ·rintro q e g ⟨k,rfl,⟨hk1,hk2⟩,e0,e3,hb,hlt,hc⟩
    by_cases c1:k < L.length
    ·have c1':((k:Nat):Int) < ((L.length:Nat):Int):=by omega
     have hp1:part (intsC L) (k * 1) none = some (.i .i64 (L.getD k 0)):=ints_ptR c1 (by omega)
     have hp2:part (intsC L) ((k - 1) * 1) none = some (.i .i64 (L.getD (k - 1) 0)):=ints_ptR (by omega) (by omega)
     have hw:=succ_wrap (k:=k) (by omega)
     have hw2:=pred_wrap (k:=k) hk1 (by omega)
     have hct:=cptI_take (l:=L) hk1 c1
     by_cases c2:L.getD k 0 = L.getD (k - 1) 0
     ·have hs:(L.getD k 0 == L.getD (k - 1) 0) = true:=by simpa using c2
      rw[if_pos c2.symm] at hct
      simp (disch:=omega) only[wp,qa,qb,qc,gl,e0,e3,c1',hp1,hp2,hw,hw2,hb,hs,oSlice,evoN,evoS,slLoM]
      refine blk_cut (fun e g => ∃ (i:Nat) (M:List Int),CiM L id i M e g) ?_ ?_
      ·refine W_loop (fun q e g => ∃ (j i:Nat) (M:List Int),q = L.length - j∧CiJ L id k j i M e g) (L.length - 1) ?_ ?_
       ·exact ⟨1,k,L,rfl,⟨by omega,by omega,hk1⟩,⟨hk1,by omega⟩,e0,e3,rfl,rfl,hb,by first | omega | (dsimp only;omega),rfl,by rw[hct];exact hc.symm,rfl⟩
       ·rintro q e g ⟨j,i,M,rfl,⟨hj1,hj2,hj3⟩,⟨hi1,hi2⟩,e0,e3,e4,e5,hb,hlt,hM,ha,hd⟩
        by_cases c3:k + j < L.length
        ·have c3':((j:Nat):Int) < ((L.length - k:Nat):Int):=by omega
         have hq1:part (intsC M) (k * 1 + j * 1) none = some (.i .i64 (M.getD (k + j) 0)):=ints_ptR (by omega) (by omega)
         have hq2:part (intsC M) (k * 1 + (j - 1) * 1) none = some (.i .i64 (M.getD (k + j - 1) 0)):=ints_ptR (by omega) (by omega)
         rw[getI_drop hd (by omega)] at hq1 hq2
         have hwj:=succ_wrap (k:=j) (by omega)
         have hwj2:=pred_wrap (k:=j) hj2 (by omega)
         have hwi:=succ_wrap (k:=i) (by omega)
         have hct2:=cptI_take (l:=L) (k:=k + j) (by omega) c3
         have hmp:intsC M = intsC M:=rfl
         have hml:(intsC M).length = L.length:=by rw[intsC_ln,hM]
         by_cases c4:L.getD (k + j) 0 = L.getD (k + j - 1) 0
         ·have hs2:(L.getD (k + j) 0 != L.getD (k + j - 1) 0) = false:=by simpa using c4
          rw[if_pos c4.symm] at hct2
          simp (disch:=omega) only[wp,qa,qb,qc,gl,e0,e3,e4,e5,c3',hq1,hq2,hwj,hwj2,hb,hs2]
          exact ⟨L.length - (j + 1),by omega,j + 1,i,M,rfl,⟨by omega,by omega,hj3⟩,⟨hi1,by omega⟩,e0,e3,e4,rfl,hb,by first | omega | (dsimp only;omega),hM,by rw[ha];exact hct2.symm,hd⟩
         ·have hs2:(L.getD (k + j) 0 != L.getD (k + j - 1) 0) = true:=by simpa using c4
          rw[if_neg (fun h => c4 h.symm)] at hct2
          have hset:=intsC_st M i (i * 1) (by omega) (L.getD (k + j) 0)
          simp (disch:=omega) only[wp,qa,qb,qc,gl,e0,e3,e4,e5,c3',hq1,hq2,hwj,hwj2,hwi,hb,hs2,hset]
          refine ⟨L.length - (j + 1),by omega,j + 1,i + 1,M.set i (L.getD (k + j) 0),rfl,⟨by omega,by omega,hj3⟩,⟨by omega,by omega⟩,e0,rfl,e4,rfl,upd_same ..,by first | omega | (dsimp only;omega),by rw[List.length_set,hM],?_,?_⟩
          ·rw[List.take_succ_eq_append_getElem (by rw[List.length_set];omega),List.take_set_of_le (Nat.le_refl _),List.getElem_set_self,ha]
           exact hct2.symm
          ·rw[List.drop_set_of_lt (Nat.lt_succ_self _)]
           have:∀ X:List Int,X.drop (i + 1) = (X.drop i).drop 1:=fun X => by rw[List.drop_drop]
           rw[this,this L,hd]
        ·have c3':¬ ((j:Nat):Int) < ((L.length - k:Nat):Int):=by omega
         have hkj:k + j = L.length:=by omega
         rw[hkj,List.take_length] at ha
         simp (disch:=omega) only[wp,qa,qb,qc,gl,e0,e3,e4,e5,c3']
         exact ⟨i,M,⟨⟨hi1,by omega⟩,e0,e3,hb,by first | omega | (dsimp only;omega),hM,ha⟩⟩
      ·rintro e g ⟨i,M,⟨hi1,hi2⟩,e0,e3,hb,hlt,hM,ha⟩
       have hml:(intsC M).length = L.length:=by rw[intsC_ln,hM]
       have hz:((List.replicate (L.length - i) [AV.i .i64 0]).flatten).length = L.length - i:=by simp
       have hsl:(splice (intsC M) (i * 1) (List.replicate (L.length - i) [AV.i .i64 0]).flatten).length = L.length:=by
        unfold splice
        split
        ·rw[List.length_set];exact hml
        ·simp[hml,hz];omega
       have hst:(splice (intsC M) (i * 1) (List.replicate (L.length - i) [AV.i .i64 0]).flatten).take (i * 1) = intsC (cptI L):=by
        rw[←ha]
        unfold splice
        split
        ·rw[List.take_set_of_le (Nat.le_refl _),Nat.mul_one];unfold intsC;rw[List.map_take]
        ·rw[List.append_assoc,List.take_append_of_le_length (by rw[List.length_take];omega),List.take_take,Nat.min_self,Nat.mul_one]
         unfold intsC;rw[List.map_take]
       have hil:i = (cptI L).length:=by rw[←ha,List.length_take];omega
       simp (disch:=omega) only[wp,qa,qb,qc,gl,e0,e3,hb,oSlice,evoN,evoS,slLoM,o_clr,vClr_S,clrS_ok,o_cutM,vCutM_S,cutS_ok,hsl,hst]
       exact ⟨_,rfl,_,by rw[←hil],upd_same ..⟩
     ·have hs:(L.getD k 0 == L.getD (k - 1) 0) = false:=by simpa using c2
      rw[if_neg (fun h => c2 h.symm)] at hct
      simp (disch:=omega) only[wp,qa,qb,qc,gl,e0,e3,c1',hp1,hp2,hw,hw2,hb,hs]
      refine ⟨L.length - (k + 1),by omega,k + 1,rfl,⟨by omega,by omega⟩,e0,rfl,hb,by first | omega | (dsimp only;omega),?_⟩
      rw[hct,hc,getI_get c1]
      exact (List.take_succ_eq_append_getElem c1).symm
    ·have c1':¬ ((k:Nat):Int) < ((L.length:Nat):Int):=by omega
     simp (disch:=omega) only[wp,qa,qb,qc,gl,e0,e3,c1']
     refine ⟨e0,hb,?_⟩
     rwa [List.take_of_length_le (by omega)] at hc
  ·rintro e g ⟨e0,hb,hc⟩
   simp (disch:=omega) only[wp,qa,qb,qc,gl,e0]
   exact ⟨_,rfl,id,by rw[hc],by rw[hc];exact hb⟩
theorem rp_pdqI (A:SrtI F) {L:List Int} (h1:1≤L.length) (h2:L.length≤12) (v:Int) {g:G} {id:Nat} (hid:g.hp id = some (.cells (intsC L) false)) (hlt:id < g.nx):
  ∃ v' g',callS F 420 [.ms id 0 L.length,.i .i64 0,.i .i64 ((L.length:Nat):Int),.i .i64 v] g = some (v',g')∧SoOut L id v' g':=by
 refine raw_of A.pdq ?_
 have hw:IntKind.i64.wrap (((L.length:Nat):Int) - 0) = ((L.length:Nat):Int):=by rw[i64_wrap (by omega) (by omega)];omega
 have c1:((L.length:Nat):Int)≤12:=by omega
 simp (disch:=omega) only[A_slices_pdqsortOrdered_int,wp,qa,qb,qc,gl]
 refine W_loop (fun q e g => e 0 = .ms id 0 L.length∧e 1 = .i .i64 0∧e 2 = .i .i64 ((L.length:Nat):Int)∧g.hp id = some (.cells (intsC L) false)∧id < g.nx) 0 ?_ ?_
 ·exact ⟨rfl,rfl,rfl,hid,by first | omega | (dsimp only;omega)⟩
 ·rintro q e g ⟨e0,e1,e2,hb,hlt⟩
  simp (disch:=omega) only[wp,qa,qb,qc,gl,e0,e1,e2,hw,c1]
  refine bindO_call (SoOut L id) (rp_insI A h1 (by omega) (g:=⟨g.hp,g.nx + 4 + 2 + 4⟩) hb (by first | omega | (dsimp only;omega))) ?_
  rintro v' g' ⟨rfl,hlt',M,hM⟩
  simp (disch:=omega) only[wp,qa,qb,qc,gl]
  exact ⟨_,rfl,rfl,by first | omega | (dsimp only;omega),M,hM⟩
theorem rp_sortI (A:SrtI F) {L:List Int} (h1:1≤L.length) (h2:L.length≤12) {g:G} {id:Nat} (hid:g.hp id = some (.cells (intsC L) false)) (hlt:id < g.nx):
  ∃ v g',callS F 371 [.ms id 0 L.length] g = some (v,g')∧SoOut L id v g':=by
 refine raw_of A.sort ?_
 have hw:IntKind.u64.wrap ((L.length:Nat):Int) = ((L.length:Nat):Int):=u64_wrap (by omega)
 obtain ⟨v,hv⟩:=A.len L.length h2
 simp (disch:=omega) only[A_slices_Sort_lint_int,wp,qa,qb,qc,gl,oConv,conv_i,hw,hv]
 refine bindO_call (SoOut L id) (rp_pdqI A h1 h2 v (g:=⟨g.hp,g.nx + 3 + 6⟩) hid (by first | omega | (dsimp only;omega))) ?_
 rintro v' g' ⟨rfl,hlt',M,hM⟩
 simp (disch:=omega) only[wp,qa,qb,qc,gl]
 exact ⟨_,rfl,rfl,by first | omega | (dsimp only;omega),M,hM⟩
def SameHp (g g':G):Prop:=g'.hp = g.hp∧g.nx≤g'.nx
theorem rp_sortI0 (A:SrtI F) {g:G}:∃ v g',callS F 371 [.sl [] 0 .rig] g = some (v,g')∧(v = .tup []∧SameHp g g'):=by
 refine raw_of A.sort ?_
 have hw:IntKind.u64.wrap ((0:Nat):Int) = ((0:Nat):Int):=rfl
 obtain ⟨v,hv⟩:=A.len 0 (by omega)
 simp (disch:=omega) only[A_slices_Sort_lint_int,wp,qa,qb,qc,gl,oConv,conv_i,hw,hv]
 refine bindO_call (fun v g' => v = .tup []∧SameHp ⟨g.hp,g.nx + 3 + 6⟩ g') ?_ ?_
 ·refine raw_of A.pdq ?_
  have hw:IntKind.i64.wrap (((0:Nat):Int) - 0) = ((0:Nat):Int):=rfl
  have c1:((0:Nat):Int)≤12:=by omega
  simp (disch:=omega) only[A_slices_pdqsortOrdered_int,wp,qa,qb,qc,gl]
  refine W_loop (fun q e g' => e 0 = .sl [] 0 .rig∧e 1 = .i .i64 0∧e 2 = .i .i64 ((0:Nat):Int)∧SameHp ⟨g.hp,g.nx + 3 + 6⟩ g') 0 ?_ ?_
  ·exact ⟨rfl,rfl,rfl,rfl,by first | omega | (dsimp only;omega)⟩
  ·rintro q e g' ⟨e0,e1,e2,hb,hn⟩
   simp (disch:=omega) only[wp,qa,qb,qc,gl,e0,e1,e2,hw,c1]
   refine bindO_call (fun v g'' => v = .tup []∧SameHp g' g'') ?_ ?_
   ·refine raw_of A.ins ?_
    have h01:IntKind.i64.wrap ((0:Int) + 1) = ((1:Nat):Int):=rfl
    simp (disch:=omega) only[A_slices_insertionSortOrdered_int,wp,qa,qb,qc,gl,h01]
    refine W_loop (fun q e g'' => e 6 = .i .i64 ((1:Nat):Int)∧e 2 = .i .i64 ((0:Nat):Int)∧SameHp g' g'') 0 ?_ ?_
    ·exact ⟨rfl,rfl,rfl,by first | omega | (dsimp only;omega)⟩
    ·rintro q e g'' ⟨e6,e2,hb',hn'⟩
     have c2:¬ ((1:Nat):Int) < ((0:Nat):Int):=by omega
     simp (disch:=omega) only[wp,qa,qb,qc,gl,e2,e6,c2]
     exact ⟨_,rfl,rfl,hb',by first | omega | (dsimp only;omega)⟩
   ·rintro v g'' ⟨rfl,hb',hn'⟩
    simp (disch:=omega) only[wp,qa,qb,qc,gl]
    exact ⟨_,rfl,rfl,hb'.trans hb,by first | omega | (dsimp only at *;omega)⟩
 ·rintro v g' ⟨rfl,hb,hn⟩
  simp (disch:=omega) only[wp,qa,qb,qc,gl]
  exact ⟨_,rfl,rfl,hb,by first | omega | (dsimp only at *;omega)⟩
end Go.Ab
end
section
set_option linter.unusedVariables false
set_option linter.unusedSimpArgs false
namespace Go.Ab
variable {F:Funs}
theorem o_ldQ {c:CS} {al:Nat→Bool} {lo id:Nat} {e:Env} {g:G} (agg x t):opE c al lo id (.ldQ agg x t) e g = vLdQ al agg (x.ev e) (e t) g:=rfl
theorem vLdQ_S {al:Nat→Bool} {agg:Option Nat} {b off o:Nat} {g:G}:vLdQ al agg (.mp b off) (.mp b o) g = ldS agg off g (selB (al b) (g.hp b)):=by
 have h:(ids1 (.mp b o)).contains b = true:=by simp[ids1]
 simp only[vLdQ,h,if_true,rd_S]
 cases selB (al b) (g.hp b) with
 | none => rfl
 | some bl => cases bl<;>rfl
theorem o_stN {c:CS} {al:Nat→Bool} {lo id:Nat} {e:Env} {g:G} (n a x ts):opE c al lo id (.stN n a x ts) e g = vStN al n (a.ev e) (x.ev e) (ts.map e) g:=rfl
theorem vStN_1 {al:Nat→Bool} {n b off q o:Nat} {x:AV} {g:G} (h:b≠q):vStN al n (.mp b off) x [.mp q o] g = vSt al n (.mp b off) x g:=if_pos (by simp[ids1,h])
theorem sp_exSelf (h127:F 127 = some A_xref02_Same) (ex:List (Int × Int)) (hl:ex.length≤1000000):pureS F 127 [exV ex,exV ex] = some (.b true):=by
 refine pure_of h127 ?_
 unfold exV
 have c0:(((ex.length:Nat):Int) != ((ex.length:Nat):Int)) = false:=by simp
 simp (disch:=omega) only[A_xref02_Same,wp,qa,qb,qc,c0]
 refine blk_cut (fun e g => True) ?_ ?_
 ·refine W_loop (fun q e g => ∃ k:Nat,q = ex.length - k∧k≤ex.length∧e 0 = .sl (tkC ex) ex.length .non∧e 1 = .sl (tkC ex) ex.length .non∧e 5 = .i .i64 ((k:Nat):Int)) ex.length ?_ ?_
  ·refine ⟨0,rfl,Nat.zero_le _,?_⟩
   simp (disch:=omega) only[wp,qa,qb,qc]
   trivial
  ·rintro q e g ⟨k,rfl,hk,e0,e1,e5⟩
   by_cases c1:k < ex.length
   ·have c1':((k:Nat):Int) < ((ex.length:Nat):Int):=by omega
    have hkd:=tk_k c1
    have hvd:=tk_v c1
    have hl2:=tk_l c1
    have hw:=succ_wrap (k:=k) (by omega)
    have c2:((ex.getD k (0,0)).1 != (ex.getD k (0,0)).1) = false:=by simp
    have c3:((ex.getD k (0,0)).2 != (ex.getD k (0,0)).2) = false:=by simp
    simp (disch:=omega) only[wp,qa,qb,qc,e0,e1,e5,c1',hkd,hvd,c2,c3,hw]
    exact ⟨ex.length - (k + 1),by omega,k + 1,rfl,by omega,rfl⟩
   ·have c1':¬ ((k:Nat):Int) < ((ex.length:Nat):Int):=by omega
    simp (disch:=omega) only[wp,qa,qb,qc,e0,e1,e5,c1']
 ·rintro e g -
  simp (disch:=omega) only[wp,qa,qb,qc]
theorem i7_0 (a0 a1 a2 a3 a4 a5 a6:AV):part [a0,a1,a2,a3,a4,a5,a6] 0 (some 7) = some (.agg [a0,a1,a2,a3,a4,a5,a6]):=rfl
theorem i7_6 (a0 a1 a2 a3 a4 a5 a6:AV):part [a0,a1,a2,a3,a4,a5,a6] 6 none = some a6:=rfl
theorem sp7 (b0 b1 b2 b3 b4 b5 b6 c0 c1 c2 c3 c4 c5 c6:AV):splice [b0,b1,b2,b3,b4,b5,b6] 0 [c0,c1,c2,c3,c4,c5,c6] = [c0,c1,c2,c3,c4,c5,c6]:=rfl
theorem z7:List.replicate 5 (AV.i .i64 0) ++ [.sl [] 0 .rig,.i .i64 0] = [.i .i64 0,.i .i64 0,.i .i64 0,.i .i64 0,.i .i64 0,.sl [] 0 .rig,.i .i64 0]:=rfl
theorem sp_insSelf (h111:F 111 = some A_xref03_SameInstr) (h127:F 127 = some A_xref02_Same) (x:Ins) (hl:x.ex.length≤1000000):pureS F 111 [.agg (insC x),.agg (insC x)] = some (.b true):=by
 refine pure_of h111 ?_
 have hs:=sp_exSelf h127 x.ex hl
 unfold exV at hs
 unfold insC exV
 simp (disch:=omega) only[A_xref03_SameInstr,wp,qa,qb,qc,gl,i7_6,hs]
theorem exM_chk {a b m:Int} (h0:0≤a) (h1:a < 3) (h2:0≤b) (h3:b < 3):chkX (exM a b m) = true∧(exM a b m).length≤3:=by
 have hr:wdB (2,a) = true:=by unfold wdB;simp;omega
 have hc:wdB (1,b) = true:=by unfold wdB;simp;omega
 have w4:wdB (3,4) = true:=rfl
 have w5:wdB (3,5) = true:=rfl
 have w6:wdB (3,6) = true:=rfl
 have w3:wdB (3,3) = true:=rfl
 have w1:wdB (1,1) = true:=rfl
 unfold exM
 split
 ·exact ⟨by unfold chkX;simp[chkG,hc],by simp⟩
 split
 ·exact ⟨by unfold chkX;simp[chkG,hr],by simp⟩
 split
 ·exact ⟨by unfold chkX;simp[chkG,hr,w4],by simp⟩
 split
 ·exact ⟨by unfold chkX;simp[chkG,hr,hc,w5],by simp⟩
 split
 ·exact ⟨by unfold chkX;simp[chkG,hr,hc,w6],by simp⟩
 ·exact ⟨by unfold chkX;simp[chkG,hc,w1,w3],by simp⟩
theorem ExOk.chk {ex:List (Int × Int)} (h:ExOk ex):chkX ex = true∧ex.length≤3:=by
 obtain ⟨a,b,m,a0,a3,b0,b3,m0,m3,rfl⟩:=h
 exact exM_chk a0 a3 b0 b3
structure ChF (F:Funs):Prop where
 ex:ExF F
 same:F 127 = some A_xref02_Same
 sins:F 111 = some A_xref03_SameInstr
 ins:F 98 = some A_xref04_Instr
 uses:F 110 = some A_xref04_Uses
 events:F 99 = some A_xref04_Events
 paths:F 100 = some A_xref04_Paths
 chk:F 87 = some A_xref04_Check
theorem sp_uses0 (A:ChF F) {ex:List (Int × Int)} {r:Int} (h:regsX ex = []) (hl:ex.length≤1000):pureS F 110 [exV ex,.i .i64 r] = some (.b false):=by
 refine pure_of A.uses ?_
 have hr:=sp_regs A.ex.regs ex (by omega)
 rw[h] at hr
 unfold exV at hr ⊢
 have c1:¬ (0:Int) < ((0:Nat):Int):=by omega
 simp (disch:=omega) only[A_xref04_Uses,wp,qa,qb,qc,hr,intsC,List.map_nil]
 refine blk_cut (fun e g => True) ?_ ?_
 ·refine W_loop (fun q e g => e 5 = .sl [] 0 .non∧e 6 = .i .i64 0) 0 ?_ ?_
  ·simp (disch:=omega) only[wp,qa,qb,qc]
  ·rintro q e g ⟨e5,e6⟩
   simp (disch:=omega) only[wp,qa,qb,qc,e5,e6,c1]
 ·rintro e g -
  simp (disch:=omega) only[wp,qa,qb,qc]
theorem sp_uses1 (A:ChF F) {c r:Int}:pureS F 110 [exV [(1,c)],.i .i64 r] = some (.b false):=sp_uses0 A rfl (by simp)
theorem sp4_ld (A:ChF F) {left md rg lc:Int} (h1:md = 0∨md = 1) (h2:rg = 0∨rg = 1∨rg = 2) (h3:lc = 0∨lc = 1):pureS F 98 [.agg (insC ⟨1,md,0,rg,lc,[],0⟩),.i .i64 2,.i .i64 left] = some (.b true):=by
 refine pure_of A.ins ?_
 have hck:=sp_exCheck A.ex.check A.ex.word [] (by simp)
 have hself:=sp_insSelf A.sins A.same ⟨1,md,0,rg,lc,[],0⟩ (by simp)
 rw[show chkX [] = false from rfl] at hck
 unfold insC exV at hself
 unfold exV at hck
 simp only[tkC,List.flatMap_nil,List.length_nil] at hck hself
 have a1:0≤rg:=by omega
 have a2:rg < 8:=by omega
 have a3:0≤lc:=by omega
 have a4:lc < 2:=by omega
 unfold insC exV
 simp only[tkC,List.flatMap_nil,List.length_nil]
 rcases h1 with rfl | rfl<;>simp (disch:=omega) only[A_xref04_Instr,wp,qa,qb,qc,gl,i7_6,i7_0,sp7,z7,frz_ag7,hck,hself,a1,a2,a3,a4,o_ldQ,vLdQ_S,o_stN,vStN_1,Int.reduceBEq,allow_lt]
theorem sp4_st (A:ChF F) {left md lc:Int} {ex:List (Int × Int)} (h1:md = 0∨md = 2) (h3:lc = 0∨lc = 1) (he:ExOk ex):pureS F 98 [.agg (insC ⟨2,md,0,0,lc,ex,0⟩),.i .i64 2,.i .i64 left] = some (.b true):=by
 refine pure_of A.ins ?_
 obtain ⟨hx,hl⟩:=he.chk
 have hck:=sp_exCheck A.ex.check A.ex.word ex (by omega)
 have hself:=sp_insSelf A.sins A.same ⟨2,md,0,0,lc,ex,0⟩ (by dsimp only;omega)
 rw[hx] at hck
 unfold insC exV at hself
 unfold exV at hck
 have a3:0≤lc:=by omega
 have a4:lc < 2:=by omega
 have z0:(0:Int)≤0:=by omega
 have z8:(0:Int) < 8:=by omega
 unfold insC exV
 rcases h1 with rfl | rfl<;>simp (disch:=omega) only[A_xref04_Instr,wp,qa,qb,qc,gl,i7_6,i7_0,sp7,z7,frz_ag7,hck,hself,a3,a4,z0,z8,o_ldQ,vLdQ_S,o_stN,vStN_1,Int.reduceBEq,allow_lt]
theorem sp4_fe (A:ChF F) {left md:Int} (h1:md = 1∨md = 2∨md = 3∨md = 4):pureS F 98 [.agg (insC ⟨3,md,0,0,0,[],0⟩),.i .i64 2,.i .i64 left] = some (.b true):=by
 refine pure_of A.ins ?_
 have hck:=sp_exCheck A.ex.check A.ex.word [] (by simp)
 have hself:=sp_insSelf A.sins A.same ⟨3,md,0,0,0,[],0⟩ (by simp)
 rw[show chkX [] = false from rfl] at hck
 unfold insC exV at hself
 unfold exV at hck
 simp only[tkC,List.flatMap_nil,List.length_nil] at hck hself
 have a1:1≤md:=by omega
 have a2:md≤4:=by omega
 have z0:(0:Int)≤0:=by omega
 have z8:(0:Int) < 8:=by omega
 have z2:(0:Int) < 2:=by omega
 unfold insC exV
 simp only[tkC,List.flatMap_nil,List.length_nil]
 simp (disch:=omega) only[A_xref04_Instr,wp,qa,qb,qc,gl,i7_6,i7_0,sp7,z7,frz_ag7,hck,hself,a1,a2,z0,z8,z2,o_ldQ,vLdQ_S,o_stN,vStN_1,Int.reduceBEq,allow_lt]
theorem sp4_fa (A:ChF F) {left md md2 rg lc c:Int} (h1:md = 0∨md = 1) (h4:md2 = 0∨md2 = 2) (h2:rg = 0∨rg = 1∨rg = 2) (h3:lc = 0∨lc = 1) (h5:c = 0∨c = 1):pureS F 98 [.agg (insC ⟨4,md,md2,rg,lc,[(1,c)],0⟩),.i .i64 2,.i .i64 left] = some (.b true):=by
 refine pure_of A.ins ?_
 have hck:=sp_exCheck A.ex.check A.ex.word [(1,c)] (by simp)
 have hself:=sp_insSelf A.sins A.same ⟨4,md,md2,rg,lc,[(1,c)],0⟩ (by simp)
 have hus:=sp_uses1 A (c:=c) (r:=rg)
 rw[show chkX [(1,c)] = true by rcases h5 with rfl | rfl<;>rfl] at hck
 unfold insC exV at hself
 unfold exV at hck hus
 have a1:0≤rg:=by omega
 have a2:rg < 8:=by omega
 have a3:0≤lc:=by omega
 have a4:lc < 2:=by omega
 have a5:(([(1,c)]:List (Int × Int)).length:Int)≤7:=by simp
 unfold insC exV
 generalize ([(1,c)]:List (Int × Int)) = ex at hck hself hus a5
 rcases h1 with rfl | rfl<;>rcases h4 with rfl | rfl<;>simp (disch:=omega) only[A_xref04_Instr,wp,qa,qb,qc,gl,i7_6,i7_0,sp7,z7,frz_ag7,hck,hself,hus,a1,a2,a3,a4,a5,o_ldQ,vLdQ_S,o_stN,vStN_1,Int.reduceBEq,allow_lt]
theorem sp4_se (A:ChF F) {left rg:Int} {ex:List (Int × Int)} (h2:rg = 0∨rg = 1∨rg = 2) (he:ExOk ex):pureS F 98 [.agg (insC ⟨5,0,0,rg,0,ex,0⟩),.i .i64 2,.i .i64 left] = some (.b true):=by
 refine pure_of A.ins ?_
 obtain ⟨hx,hl⟩:=he.chk
 have hck:=sp_exCheck A.ex.check A.ex.word ex (by omega)
 have hself:=sp_insSelf A.sins A.same ⟨5,0,0,rg,0,ex,0⟩ (by dsimp only;omega)
 rw[hx] at hck
 unfold insC exV at hself
 unfold exV at hck
 have a1:0≤rg:=by omega
 have a2:rg < 8:=by omega
 have z0:(0:Int)≤0:=by omega
 have z2:(0:Int) < 2:=by omega
 unfold insC exV
 simp (disch:=omega) only[A_xref04_Instr,wp,qa,qb,qc,gl,i7_6,i7_0,sp7,z7,frz_ag7,hck,hself,a1,a2,z0,z2,o_ldQ,vLdQ_S,o_stN,vStN_1,Int.reduceBEq,allow_lt]
theorem sp4_sk (A:ChF F) {left n:Int} {ex:List (Int × Int)} (he:ExOk ex) (h0:0≤n) (h1:n≤left):pureS F 98 [.agg (insC ⟨6,0,0,0,0,ex,n⟩),.i .i64 2,.i .i64 left] = some (.b true):=by
 refine pure_of A.ins ?_
 obtain ⟨hx,hl⟩:=he.chk
 have hck:=sp_exCheck A.ex.check A.ex.word ex (by omega)
 have hself:=sp_insSelf A.sins A.same ⟨6,0,0,0,0,ex,n⟩ (by dsimp only;omega)
 rw[hx] at hck
 unfold insC exV at hself
 unfold exV at hck
 have z0:(0:Int)≤0:=by omega
 have z8:(0:Int) < 8:=by omega
 have z2:(0:Int) < 2:=by omega
 unfold insC exV
 simp (disch:=omega) only[A_xref04_Instr,wp,qa,qb,qc,gl,i7_6,i7_0,sp7,z7,frz_ag7,hck,hself,h0,h1,z0,z8,z2,o_ldQ,vLdQ_S,o_stN,vStN_1,Int.reduceBEq,allow_lt]
theorem sp4_instr (A:ChF F) {left:Int} {x:Ins} (h:InsK left x):pureS F 98 [.agg (insC x),.i .i64 2,.i .i64 left] = some (.b true):=by
 cases h with
 | ld md rg lc h1 h2 h3 => exact sp4_ld A h1 h2 h3
 | st md lc ex h1 h3 he => exact sp4_st A h1 h3 he
 | fe md h1 => exact sp4_fe A h1
 | fa md md2 rg lc c h1 h4 h2 h3 h5 => exact sp4_fa A h1 h4 h2 h3 h5
 | se rg ex h2 he => exact sp4_se A h2 he
 | sk ex n he h0 h1 => exact sp4_sk A he h0 h1
end Go.Ab
end
