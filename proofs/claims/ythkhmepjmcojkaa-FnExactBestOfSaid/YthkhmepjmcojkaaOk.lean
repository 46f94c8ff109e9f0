/- Each compact text is its function of the program (table_ok); no condition. -/
import Derived.Test.YthkhmepjmcojkaaRows
import Derived.Test.YthkhmepjmcojkaaK0
import Derived.Test.YthkhmepjmcojkaaEvB2
import Derived.KernelRfl
set_option linter.all false
namespace Go.Pe
open Go Go.Proofs
theorem ok_laws_FnExactBestOf : EntryOk Try.prog k_laws_FnExactBestOf (fnOf k_laws_FnExactBestOf_ic k_laws_FnExactBestOf_rv []) := ⟨_, _, k_laws_FnExactBestOf_vars, Try.func4, rfl, by kernel_rfl, by kernel_rfl, by kernel_rfl⟩
theorem ok_laws_szConfig : EntryOk Try.prog k_laws_szConfig (fnOf k_laws_szConfig_ic k_laws_szConfig_rv []) := ⟨_, _, k_laws_szConfig_vars, Try.func11, rfl, by kernel_rfl, by kernel_rfl, by kernel_rfl⟩
theorem ok_laws_szCandS : EntryOk Try.prog k_laws_szCandS (fnOf k_laws_szCandS_ic k_laws_szCandS_rv []) := ⟨_, _, k_laws_szCandS_vars, Try.func12, rfl, by kernel_rfl, by kernel_rfl, by kernel_rfl⟩
theorem ok_spec_BestOf : EntryOk Try.prog k_spec_BestOf (fnOf k_spec_BestOf_ic k_spec_BestOf_rv []) := ⟨_, _, k_spec_BestOf_vars, Try.func13, rfl, by kernel_rfl, by kernel_rfl, by kernel_rfl⟩
theorem ok_laws_toConfig : EntryOk Try.prog k_laws_toConfig (fnOf k_laws_toConfig_ic k_laws_toConfig_rv []) := ⟨_, _, k_laws_toConfig_vars, Try.func14, rfl, by kernel_rfl, by kernel_rfl, by kernel_rfl⟩
theorem ok_laws_toBound : EntryOk Try.prog k_laws_toBound (fnOf k_laws_toBound_ic k_laws_toBound_rv []) := ⟨_, _, k_laws_toBound_vars, Try.func15, rfl, by kernel_rfl, by kernel_rfl, by kernel_rfl⟩
theorem ok_laws_toCandS : EntryOk Try.prog k_laws_toCandS (fnOf k_laws_toCandS_ic k_laws_toCandS_rv []) := ⟨_, _, k_laws_toCandS_vars, Try.func16, rfl, by kernel_rfl, by kernel_rfl, by kernel_rfl⟩
theorem ok_impl_BestOf : EntryOk Try.prog k_impl_BestOf (fnOf k_impl_BestOf_ic k_impl_BestOf_rv []) := ⟨_, _, k_impl_BestOf_vars, Try.func17, rfl, by kernel_rfl, by kernel_rfl, by kernel_rfl⟩
theorem ok_laws_eqCand : EntryOk Try.prog k_laws_eqCand (fnOf k_laws_eqCand_ic k_laws_eqCand_rv []) := ⟨_, _, k_laws_eqCand_vars, Try.func18, rfl, by kernel_rfl, by kernel_rfl, by kernel_rfl⟩
theorem ok_laws_eqConfig : EntryOk Try.prog k_laws_eqConfig (fnOf k_laws_eqConfig_ic k_laws_eqConfig_rv []) := ⟨_, _, k_laws_eqConfig_vars, Try.func19, rfl, by kernel_rfl, by kernel_rfl, by kernel_rfl⟩
theorem ok_laws_eqCandS : EntryOk Try.prog k_laws_eqCandS (fnOf k_laws_eqCandS_ic k_laws_eqCandS_rv []) := ⟨_, _, k_laws_eqCandS_vars, Try.func20, rfl, by kernel_rfl, by kernel_rfl, by kernel_rfl⟩
theorem ok_laws_szIntS : EntryOk Try.prog k_laws_szIntS (fnOf k_laws_szIntS_ic k_laws_szIntS_rv []) := ⟨_, _, k_laws_szIntS_vars, Try.func41, rfl, by kernel_rfl, by kernel_rfl, by kernel_rfl⟩
theorem ok_spec_MayPart : EntryOk Try.prog k_spec_MayPart (fnOf k_spec_MayPart_ic k_spec_MayPart_rv []) := ⟨_, _, k_spec_MayPart_vars, Try.func42, rfl, by kernel_rfl, by kernel_rfl, by kernel_rfl⟩
theorem ok_spec_Better : EntryOk Try.prog k_spec_Better (fnOf k_spec_Better_ic k_spec_Better_rv []) := ⟨_, _, k_spec_Better_vars, Try.func43, rfl, by kernel_rfl, by kernel_rfl, by kernel_rfl⟩
theorem ok_laws_toIntS : EntryOk Try.prog k_laws_toIntS (fnOf k_laws_toIntS_ic k_laws_toIntS_rv []) := ⟨_, _, k_laws_toIntS_vars, Try.func44, rfl, by kernel_rfl, by kernel_rfl, by kernel_rfl⟩
theorem ok_laws_toCand : EntryOk Try.prog k_laws_toCand (fnOf k_laws_toCand_ic k_laws_toCand_rv []) := ⟨_, _, k_laws_toCand_vars, Try.func45, rfl, by kernel_rfl, by kernel_rfl, by kernel_rfl⟩
theorem ok_impl_MayPart : EntryOk Try.prog k_impl_MayPart (fnOf k_impl_MayPart_ic k_impl_MayPart_rv []) := ⟨_, _, k_impl_MayPart_vars, Try.func46, rfl, by kernel_rfl, by kernel_rfl, by kernel_rfl⟩
theorem ok_impl_Better : EntryOk Try.prog k_impl_Better (fnOf k_impl_Better_ic k_impl_Better_rv []) := ⟨_, _, k_impl_Better_vars, Try.func47, rfl, by kernel_rfl, by kernel_rfl, by kernel_rfl⟩
theorem ok_laws_eqSlot : EntryOk Try.prog k_laws_eqSlot (fnOf k_laws_eqSlot_ic k_laws_eqSlot_rv []) := ⟨_, _, k_laws_eqSlot_vars, Try.func48, rfl, by kernel_rfl, by kernel_rfl, by kernel_rfl⟩
theorem ok_laws_eqIntS : EntryOk Try.prog k_laws_eqIntS (fnOf k_laws_eqIntS_ic k_laws_eqIntS_rv []) := ⟨_, _, k_laws_eqIntS_vars, Try.func49, rfl, by kernel_rfl, by kernel_rfl, by kernel_rfl⟩
theorem ok_spec_l1In : EntryOk Try.prog k_spec_l1In (fnOf k_spec_l1In_ic k_spec_l1In_rv []) := ⟨_, _, k_spec_l1In_vars, Try.func63, rfl, by kernel_rfl, by kernel_rfl, by kernel_rfl⟩
theorem ok_impl_within : EntryOk Try.prog k_impl_within (fnOf k_impl_within_ic k_impl_within_rv []) := ⟨_, _, k_impl_within_vars, Try.func67, rfl, by kernel_rfl, by kernel_rfl, by kernel_rfl⟩
theorem ok_slices_ContainsFunc___int_int_ : EntryOk Try.prog k_slices_ContainsFunc___int_int_ (fnOf k_slices_ContainsFunc___int_int__ic k_slices_ContainsFunc___int_int__rv []) := ⟨_, _, k_slices_ContainsFunc___int_int__vars, Try.func81, rfl, by kernel_rfl, by kernel_rfl, by kernel_rfl⟩
theorem ok_impl_isSign : EntryOk Try.prog k_impl_isSign (fnOf k_impl_isSign_ic k_impl_isSign_rv []) := ⟨_, _, k_impl_isSign_vars, Try.func83, rfl, by kernel_rfl, by kernel_rfl, by kernel_rfl⟩
theorem ok_spec_SideValues : EntryOk Try.prog k_spec_SideValues (fnOf k_spec_SideValues_ic k_spec_SideValues_rv []) := ⟨_, _, k_spec_SideValues_vars, Try.func87, rfl, by kernel_rfl, by kernel_rfl, by kernel_rfl⟩
theorem ok_spec_ConfigOk : EntryOk Try.prog k_spec_ConfigOk (fnOf k_spec_ConfigOk_ic k_spec_ConfigOk_rv []) := ⟨_, _, k_spec_ConfigOk_vars, Try.func88, rfl, by kernel_rfl, by kernel_rfl, by kernel_rfl⟩
theorem ok_spec_Agrees : EntryOk Try.prog k_spec_Agrees (fnOf k_spec_Agrees_ic k_spec_Agrees_rv []) := ⟨_, _, k_spec_Agrees_vars, Try.func89, rfl, by kernel_rfl, by kernel_rfl, by kernel_rfl⟩
theorem ok_spec_SignFor : EntryOk Try.prog k_spec_SignFor (fnOf k_spec_SignFor_ic k_spec_SignFor_rv []) := ⟨_, _, k_spec_SignFor_vars, Try.func90, rfl, by kernel_rfl, by kernel_rfl, by kernel_rfl⟩
theorem ok_spec_Improves : EntryOk Try.prog k_spec_Improves (fnOf k_spec_Improves_ic k_spec_Improves_rv []) := ⟨_, _, k_spec_Improves_vars, Try.func91, rfl, by kernel_rfl, by kernel_rfl, by kernel_rfl⟩
theorem ok_spec_GainOf : EntryOk Try.prog k_spec_GainOf (fnOf k_spec_GainOf_ic k_spec_GainOf_rv []) := ⟨_, _, k_spec_GainOf_vars, Try.func92, rfl, by kernel_rfl, by kernel_rfl, by kernel_rfl⟩
theorem ok_spec_CompareFrac : EntryOk Try.prog k_spec_CompareFrac (fnOf k_spec_CompareFrac_ic k_spec_CompareFrac_rv []) := ⟨_, _, k_spec_CompareFrac_vars, Try.func93, rfl, by kernel_rfl, by kernel_rfl, by kernel_rfl⟩
theorem ok_spec_CandLess : EntryOk Try.prog k_spec_CandLess (fnOf k_spec_CandLess_ic k_spec_CandLess_rv []) := ⟨_, _, k_spec_CandLess_vars, Try.func94, rfl, by kernel_rfl, by kernel_rfl, by kernel_rfl⟩
theorem ok_laws_toSlot : EntryOk Try.prog k_laws_toSlot (fnOf k_laws_toSlot_ic k_laws_toSlot_rv []) := ⟨_, _, k_laws_toSlot_vars, Try.func95, rfl, by kernel_rfl, by kernel_rfl, by kernel_rfl⟩
theorem ok_impl_SideValues : EntryOk Try.prog k_impl_SideValues (fnOf k_impl_SideValues_ic k_impl_SideValues_rv []) := ⟨_, _, k_impl_SideValues_vars, Try.func96, rfl, by kernel_rfl, by kernel_rfl, by kernel_rfl⟩
theorem ok_impl_ConfigOk : EntryOk Try.prog k_impl_ConfigOk (fnOf k_impl_ConfigOk_ic k_impl_ConfigOk_rv []) := ⟨_, _, k_impl_ConfigOk_vars, Try.func97, rfl, by kernel_rfl, by kernel_rfl, by kernel_rfl⟩
theorem ok_impl_Agrees : EntryOk Try.prog k_impl_Agrees (fnOf k_impl_Agrees_ic k_impl_Agrees_rv []) := ⟨_, _, k_impl_Agrees_vars, Try.func98, rfl, by kernel_rfl, by kernel_rfl, by kernel_rfl⟩
theorem ok_impl_SignFor : EntryOk Try.prog k_impl_SignFor (fnOf k_impl_SignFor_ic k_impl_SignFor_rv []) := ⟨_, _, k_impl_SignFor_vars, Try.func99, rfl, by kernel_rfl, by kernel_rfl, by kernel_rfl⟩
theorem ok_impl_Improves : EntryOk Try.prog k_impl_Improves (fnOf k_impl_Improves_ic k_impl_Improves_rv []) := ⟨_, _, k_impl_Improves_vars, Try.func100, rfl, by kernel_rfl, by kernel_rfl, by kernel_rfl⟩
theorem ok_impl_GainOf : EntryOk Try.prog k_impl_GainOf (fnOf k_impl_GainOf_ic k_impl_GainOf_rv []) := ⟨_, _, k_impl_GainOf_vars, Try.func101, rfl, by kernel_rfl, by kernel_rfl, by kernel_rfl⟩
theorem ok_impl_CompareFrac : EntryOk Try.prog k_impl_CompareFrac (fnOf k_impl_CompareFrac_ic k_impl_CompareFrac_rv []) := ⟨_, _, k_impl_CompareFrac_vars, Try.func102, rfl, by kernel_rfl, by kernel_rfl, by kernel_rfl⟩
theorem ok_impl_CandLess : EntryOk Try.prog k_impl_CandLess (fnOf k_impl_CandLess_ic k_impl_CandLess_rv []) := ⟨_, _, k_impl_CandLess_vars, Try.func103, rfl, by kernel_rfl, by kernel_rfl, by kernel_rfl⟩
theorem ok_impl_isLeafValue : EntryOk Try.prog k_impl_isLeafValue (fnOf k_impl_isLeafValue_ic k_impl_isLeafValue_rv []) := ⟨_, _, k_impl_isLeafValue_vars, Try.func107, rfl, by kernel_rfl, by kernel_rfl, by kernel_rfl⟩
theorem ok_impl_FloorDiv : EntryOk Try.prog k_impl_FloorDiv (fnOf k_impl_FloorDiv_ic k_impl_FloorDiv_rv []) := ⟨_, _, k_impl_FloorDiv_vars, Try.func108, rfl, by kernel_rfl, by kernel_rfl, by kernel_rfl⟩
theorem ok_spec_l14Leaf : EntryOk Try.prog k_spec_l14Leaf (fnOf k_spec_l14Leaf_ic k_spec_l14Leaf_rv []) := ⟨_, _, k_spec_l14Leaf_vars, Try.func109, rfl, by kernel_rfl, by kernel_rfl, by kernel_rfl⟩
theorem ok_spec_FloorDiv : EntryOk Try.prog k_spec_FloorDiv (fnOf k_spec_FloorDiv_ic k_spec_FloorDiv_rv []) := ⟨_, _, k_spec_FloorDiv_vars, Try.func110, rfl, by kernel_rfl, by kernel_rfl, by kernel_rfl⟩
theorem ok_slices_IndexFunc___int_int_ : EntryOk Try.prog k_slices_IndexFunc___int_int_ (fnOf k_slices_IndexFunc___int_int__ic k_slices_IndexFunc___int_int__rv []) := ⟨_, _, k_slices_IndexFunc___int_int__vars, Try.func124, rfl, by kernel_rfl, by kernel_rfl, by kernel_rfl⟩
theorem ok_spec_LeafOf : EntryOk Try.prog k_spec_LeafOf (fnOf k_spec_LeafOf_ic k_spec_LeafOf_rv []) := ⟨_, _, k_spec_LeafOf_vars, Try.func126, rfl, by kernel_rfl, by kernel_rfl, by kernel_rfl⟩
theorem ok_spec_l8Numbers : EntryOk Try.prog k_spec_l8Numbers (fnOf k_spec_l8Numbers_ic k_spec_l8Numbers_rv []) := ⟨_, _, k_spec_l8Numbers_vars, Try.func127, rfl, by kernel_rfl, by kernel_rfl, by kernel_rfl⟩
theorem ok_spec_l8Least : EntryOk Try.prog k_spec_l8Least (fnOf k_spec_l8Least_ic k_spec_l8Least_rv []) := ⟨_, _, k_spec_l8Least_vars, Try.func128, rfl, by kernel_rfl, by kernel_rfl, by kernel_rfl⟩
theorem ok_spec_l8Most : EntryOk Try.prog k_spec_l8Most (fnOf k_spec_l8Most_ic k_spec_l8Most_rv []) := ⟨_, _, k_spec_l8Most_vars, Try.func129, rfl, by kernel_rfl, by kernel_rfl, by kernel_rfl⟩
theorem ok_spec_BothOf : EntryOk Try.prog k_spec_BothOf (fnOf k_spec_BothOf_ic k_spec_BothOf_rv []) := ⟨_, _, k_spec_BothOf_vars, Try.func130, rfl, by kernel_rfl, by kernel_rfl, by kernel_rfl⟩
theorem ok_spec_PlainGain : EntryOk Try.prog k_spec_PlainGain (fnOf k_spec_PlainGain_ic k_spec_PlainGain_rv []) := ⟨_, _, k_spec_PlainGain_vars, Try.func131, rfl, by kernel_rfl, by kernel_rfl, by kernel_rfl⟩
theorem ok_spec_AddFrac : EntryOk Try.prog k_spec_AddFrac (fnOf k_spec_AddFrac_ic k_spec_AddFrac_rv []) := ⟨_, _, k_spec_AddFrac_vars, Try.func132, rfl, by kernel_rfl, by kernel_rfl, by kernel_rfl⟩
theorem ok_spec_l5Cross : EntryOk Try.prog k_spec_l5Cross (fnOf k_spec_l5Cross_ic k_spec_l5Cross_rv []) := ⟨_, _, k_spec_l5Cross_vars, Try.func133, rfl, by kernel_rfl, by kernel_rfl, by kernel_rfl⟩
theorem ok_spec_CompareWide : EntryOk Try.prog k_spec_CompareWide (fnOf k_spec_CompareWide_ic k_spec_CompareWide_rv []) := ⟨_, _, k_spec_CompareWide_vars, Try.func134, rfl, by kernel_rfl, by kernel_rfl, by kernel_rfl⟩
theorem ok_impl_LeafOf : EntryOk Try.prog k_impl_LeafOf (fnOf k_impl_LeafOf_ic k_impl_LeafOf_rv []) := ⟨_, _, k_impl_LeafOf_vars, Try.func135, rfl, by kernel_rfl, by kernel_rfl, by kernel_rfl⟩
theorem ok_impl_ConfigOk_1 : EntryOk Try.prog k_impl_ConfigOk_1 (fnOf k_impl_ConfigOk_1_ic k_impl_ConfigOk_1_rv []) := ⟨_, _, k_impl_ConfigOk_1_vars, Try.func136, rfl, by kernel_rfl, by kernel_rfl, by kernel_rfl⟩
theorem ok_impl_BothOf : EntryOk Try.prog k_impl_BothOf (fnOf k_impl_BothOf_ic k_impl_BothOf_rv []) := ⟨_, _, k_impl_BothOf_vars, Try.func137, rfl, by kernel_rfl, by kernel_rfl, by kernel_rfl⟩
theorem ok_impl_PlainGain : EntryOk Try.prog k_impl_PlainGain (fnOf k_impl_PlainGain_ic k_impl_PlainGain_rv []) := ⟨_, _, k_impl_PlainGain_vars, Try.func138, rfl, by kernel_rfl, by kernel_rfl, by kernel_rfl⟩
theorem ok_impl_AddFrac : EntryOk Try.prog k_impl_AddFrac (fnOf k_impl_AddFrac_ic k_impl_AddFrac_rv []) := ⟨_, _, k_impl_AddFrac_vars, Try.func139, rfl, by kernel_rfl, by kernel_rfl, by kernel_rfl⟩
theorem ok_impl_crossed : EntryOk Try.prog k_impl_crossed (fnOf k_impl_crossed_ic k_impl_crossed_rv []) := ⟨_, _, k_impl_crossed_vars, Try.func140, rfl, by kernel_rfl, by kernel_rfl, by kernel_rfl⟩
theorem ok_impl_CompareWide : EntryOk Try.prog k_impl_CompareWide (fnOf k_impl_CompareWide_ic k_impl_CompareWide_rv []) := ⟨_, _, k_impl_CompareWide_vars, Try.func141, rfl, by kernel_rfl, by kernel_rfl, by kernel_rfl⟩
theorem ok_cmp_Or_int_ : EntryOk Try.prog k_cmp_Or_int_ (fnOf k_cmp_Or_int__ic k_cmp_Or_int__rv []) := ⟨_, _, k_cmp_Or_int__vars, Try.func142, rfl, by kernel_rfl, by kernel_rfl, by kernel_rfl⟩
theorem ok_cmp_Compare_int_ : EntryOk Try.prog k_cmp_Compare_int_ (fnOf k_cmp_Compare_int__ic k_cmp_Compare_int__rv []) := ⟨_, _, k_cmp_Compare_int__vars, Try.func143, rfl, by kernel_rfl, by kernel_rfl, by kernel_rfl⟩
theorem ok_spec_BoundOk : EntryOk Try.prog k_spec_BoundOk (fnOf k_spec_BoundOk_ic k_spec_BoundOk_rv []) := ⟨_, _, k_spec_BoundOk_vars, Try.func150, rfl, by kernel_rfl, by kernel_rfl, by kernel_rfl⟩
theorem ok_spec_Brought : EntryOk Try.prog k_spec_Brought (fnOf k_spec_Brought_ic k_spec_Brought_rv []) := ⟨_, _, k_spec_Brought_vars, Try.func151, rfl, by kernel_rfl, by kernel_rfl, by kernel_rfl⟩
theorem ok_spec_l13Add : EntryOk Try.prog k_spec_l13Add (fnOf k_spec_l13Add_ic k_spec_l13Add_rv []) := ⟨_, _, k_spec_l13Add_vars, Try.func152, rfl, by kernel_rfl, by kernel_rfl, by kernel_rfl⟩
theorem ok_spec_SquareOver : EntryOk Try.prog k_spec_SquareOver (fnOf k_spec_SquareOver_ic k_spec_SquareOver_rv []) := ⟨_, _, k_spec_SquareOver_vars, Try.func153, rfl, by kernel_rfl, by kernel_rfl, by kernel_rfl⟩
theorem ok_spec_AddWide : EntryOk Try.prog k_spec_AddWide (fnOf k_spec_AddWide_ic k_spec_AddWide_rv []) := ⟨_, _, k_spec_AddWide_vars, Try.func154, rfl, by kernel_rfl, by kernel_rfl, by kernel_rfl⟩
theorem ok_spec_FracOk : EntryOk Try.prog k_spec_FracOk (fnOf k_spec_FracOk_ic k_spec_FracOk_rv []) := ⟨_, _, k_spec_FracOk_vars, Try.func155, rfl, by kernel_rfl, by kernel_rfl, by kernel_rfl⟩
theorem ok_spec_ScaleWide : EntryOk Try.prog k_spec_ScaleWide (fnOf k_spec_ScaleWide_ic k_spec_ScaleWide_rv []) := ⟨_, _, k_spec_ScaleWide_vars, Try.func156, rfl, by kernel_rfl, by kernel_rfl, by kernel_rfl⟩
theorem ok_spec_l3Zero : EntryOk Try.prog k_spec_l3Zero (fnOf k_spec_l3Zero_ic k_spec_l3Zero_rv []) := ⟨_, _, k_spec_l3Zero_vars, Try.func157, rfl, by kernel_rfl, by kernel_rfl, by kernel_rfl⟩
theorem ok_spec_l3Order : EntryOk Try.prog k_spec_l3Order (fnOf k_spec_l3Order_ic k_spec_l3Order_rv []) := ⟨_, _, k_spec_l3Order_vars, Try.func158, rfl, by kernel_rfl, by kernel_rfl, by kernel_rfl⟩
theorem ok_impl_isCount : EntryOk Try.prog k_impl_isCount (fnOf k_impl_isCount_ic k_impl_isCount_rv []) := ⟨_, _, k_impl_isCount_vars, Try.func159, rfl, by kernel_rfl, by kernel_rfl, by kernel_rfl⟩
theorem ok_impl_BoundOk : EntryOk Try.prog k_impl_BoundOk (fnOf k_impl_BoundOk_ic k_impl_BoundOk_rv []) := ⟨_, _, k_impl_BoundOk_vars, Try.func160, rfl, by kernel_rfl, by kernel_rfl, by kernel_rfl⟩
theorem ok_impl_Brought : EntryOk Try.prog k_impl_Brought (fnOf k_impl_Brought_ic k_impl_Brought_rv []) := ⟨_, _, k_impl_Brought_vars, Try.func161, rfl, by kernel_rfl, by kernel_rfl, by kernel_rfl⟩
theorem ok__impl_Slot__plus : EntryOk Try.prog k__impl_Slot__plus (fnOf k__impl_Slot__plus_ic k__impl_Slot__plus_rv []) := ⟨_, _, k__impl_Slot__plus_vars, Try.func162, rfl, by kernel_rfl, by kernel_rfl, by kernel_rfl⟩
theorem ok_impl_SquareOver : EntryOk Try.prog k_impl_SquareOver (fnOf k_impl_SquareOver_ic k_impl_SquareOver_rv []) := ⟨_, _, k_impl_SquareOver_vars, Try.func163, rfl, by kernel_rfl, by kernel_rfl, by kernel_rfl⟩
theorem ok_impl_AddWide : EntryOk Try.prog k_impl_AddWide (fnOf k_impl_AddWide_ic k_impl_AddWide_rv []) := ⟨_, _, k_impl_AddWide_vars, Try.func164, rfl, by kernel_rfl, by kernel_rfl, by kernel_rfl⟩
theorem ok_impl_fracOf : EntryOk Try.prog k_impl_fracOf (fnOf k_impl_fracOf_ic k_impl_fracOf_rv []) := ⟨_, _, k_impl_fracOf_vars, Try.func165, rfl, by kernel_rfl, by kernel_rfl, by kernel_rfl⟩
theorem ok_impl_FracOk : EntryOk Try.prog k_impl_FracOk (fnOf k_impl_FracOk_ic k_impl_FracOk_rv []) := ⟨_, _, k_impl_FracOk_vars, Try.func166, rfl, by kernel_rfl, by kernel_rfl, by kernel_rfl⟩
theorem ok_impl_ScaleWide : EntryOk Try.prog k_impl_ScaleWide (fnOf k_impl_ScaleWide_ic k_impl_ScaleWide_rv []) := ⟨_, _, k_impl_ScaleWide_vars, Try.func167, rfl, by kernel_rfl, by kernel_rfl, by kernel_rfl⟩
theorem ok_impl_wideOf : EntryOk Try.prog k_impl_wideOf (fnOf k_impl_wideOf_ic k_impl_wideOf_rv []) := ⟨_, _, k_impl_wideOf_vars, Try.func168, rfl, by kernel_rfl, by kernel_rfl, by kernel_rfl⟩
theorem ok_impl_compareSizes : EntryOk Try.prog k_impl_compareSizes (fnOf k_impl_compareSizes_ic k_impl_compareSizes_rv []) := ⟨_, _, k_impl_compareSizes_vars, Try.func169, rfl, by kernel_rfl, by kernel_rfl, by kernel_rfl⟩
theorem ok_cmp_isNaN_int_ : EntryOk Try.prog k_cmp_isNaN_int_ (fnOf k_cmp_isNaN_int__ic k_cmp_isNaN_int__rv []) := ⟨_, _, k_cmp_isNaN_int__vars, Try.func170, rfl, by kernel_rfl, by kernel_rfl, by kernel_rfl⟩
theorem ok_spec_AddInt : EntryOk Try.prog k_spec_AddInt (fnOf k_spec_AddInt_ic k_spec_AddInt_rv []) := ⟨_, _, k_spec_AddInt_vars, Try.func174, rfl, by kernel_rfl, by kernel_rfl, by kernel_rfl⟩
theorem ok_spec_MulWide : EntryOk Try.prog k_spec_MulWide (fnOf k_spec_MulWide_ic k_spec_MulWide_rv []) := ⟨_, _, k_spec_MulWide_vars, Try.func175, rfl, by kernel_rfl, by kernel_rfl, by kernel_rfl⟩
theorem ok_spec_WideOk : EntryOk Try.prog k_spec_WideOk (fnOf k_spec_WideOk_ic k_spec_WideOk_rv []) := ⟨_, _, k_spec_WideOk_vars, Try.func176, rfl, by kernel_rfl, by kernel_rfl, by kernel_rfl⟩
theorem ok_spec_l3Abs : EntryOk Try.prog k_spec_l3Abs (fnOf k_spec_l3Abs_ic k_spec_l3Abs_rv []) := ⟨_, _, k_spec_l3Abs_vars, Try.func177, rfl, by kernel_rfl, by kernel_rfl, by kernel_rfl⟩
theorem ok_spec_l3Product : EntryOk Try.prog k_spec_l3Product (fnOf k_spec_l3Product_ic k_spec_l3Product_rv []) := ⟨_, _, k_spec_l3Product_vars, Try.func178, rfl, by kernel_rfl, by kernel_rfl, by kernel_rfl⟩
theorem ok_impl_AddInt : EntryOk Try.prog k_impl_AddInt (fnOf k_impl_AddInt_ic k_impl_AddInt_rv []) := ⟨_, _, k_impl_AddInt_vars, Try.func179, rfl, by kernel_rfl, by kernel_rfl, by kernel_rfl⟩
theorem ok_impl_MulWide : EntryOk Try.prog k_impl_MulWide (fnOf k_impl_MulWide_ic k_impl_MulWide_rv []) := ⟨_, _, k_impl_MulWide_vars, Try.func180, rfl, by kernel_rfl, by kernel_rfl, by kernel_rfl⟩
theorem ok_impl_WideOk : EntryOk Try.prog k_impl_WideOk (fnOf k_impl_WideOk_ic k_impl_WideOk_rv []) := ⟨_, _, k_impl_WideOk_vars, Try.func181, rfl, by kernel_rfl, by kernel_rfl, by kernel_rfl⟩
theorem ok_math_bits_Sub64 : EntryOk Try.prog k_math_bits_Sub64 (.ext sub64G) := sub64_ok Try.func182 (by kernel_rfl) (by kernel_rfl) (by kernel_rfl) (by kernel_rfl)
theorem ok_math_bits_Add64 : EntryOk Try.prog k_math_bits_Add64 (.ext add64G) := add64_ok Try.func183 (by kernel_rfl) (by kernel_rfl) (by kernel_rfl) (by kernel_rfl)
theorem ok_impl_size : EntryOk Try.prog k_impl_size (fnOf k_impl_size_ic k_impl_size_rv []) := ⟨_, _, k_impl_size_vars, Try.func184, rfl, by kernel_rfl, by kernel_rfl, by kernel_rfl⟩
theorem ok_math_bits_Mul64 : EntryOk Try.prog k_math_bits_Mul64 (fnOf k_math_bits_Mul64_ic k_math_bits_Mul64_rv []) := ⟨_, _, k_math_bits_Mul64_vars, Try.func185, rfl, by kernel_rfl, by kernel_rfl, by kernel_rfl⟩
theorem ok_cmp_Compare_uint64_ : EntryOk Try.prog k_cmp_Compare_uint64_ (fnOf k_cmp_Compare_uint64__ic k_cmp_Compare_uint64__rv []) := ⟨_, _, k_cmp_Compare_uint64__vars, Try.func186, rfl, by kernel_rfl, by kernel_rfl, by kernel_rfl⟩
theorem ok_cmp_isNaN_uint64_ : EntryOk Try.prog k_cmp_isNaN_uint64_ (fnOf k_cmp_isNaN_uint64__ic k_cmp_isNaN_uint64__rv []) := ⟨_, _, k_cmp_isNaN_uint64__vars, Try.func198, rfl, by kernel_rfl, by kernel_rfl, by kernel_rfl⟩
theorem table_ok : TableOk Try.prog T := by
  refine tableOk_of ?_
  simp only [tbl, List.forall_mem_cons, List.not_mem_nil, false_imp_iff, implies_true, and_true]
  exact ⟨ok_laws_FnExactBestOf, ok_laws_szConfig, ok_laws_szCandS, ok_spec_BestOf, ok_laws_toConfig, ok_laws_toBound, ok_laws_toCandS, ok_impl_BestOf, ok_laws_eqCand, ok_laws_eqConfig, ok_laws_eqCandS, ok_laws_szIntS, ok_spec_MayPart, ok_spec_Better, ok_laws_toIntS, ok_laws_toCand, ok_impl_MayPart, ok_impl_Better, ok_laws_eqSlot, ok_laws_eqIntS, ok_spec_l1In, ok_impl_within, ok_slices_ContainsFunc___int_int_, ok_impl_isSign, ok_spec_SideValues, ok_spec_ConfigOk, ok_spec_Agrees, ok_spec_SignFor, ok_spec_Improves, ok_spec_GainOf, ok_spec_CompareFrac, ok_spec_CandLess, ok_laws_toSlot, ok_impl_SideValues, ok_impl_ConfigOk, ok_impl_Agrees, ok_impl_SignFor, ok_impl_Improves, ok_impl_GainOf, ok_impl_CompareFrac, ok_impl_CandLess, ok_impl_isLeafValue, ok_impl_FloorDiv, ok_spec_l14Leaf, ok_spec_FloorDiv, ok_slices_IndexFunc___int_int_, ok_spec_LeafOf, ok_spec_l8Numbers, ok_spec_l8Least, ok_spec_l8Most, ok_spec_BothOf, ok_spec_PlainGain, ok_spec_AddFrac, ok_spec_l5Cross, ok_spec_CompareWide, ok_impl_LeafOf, ok_impl_ConfigOk_1, ok_impl_BothOf, ok_impl_PlainGain, ok_impl_AddFrac, ok_impl_crossed, ok_impl_CompareWide, ok_cmp_Or_int_, ok_cmp_Compare_int_, ok_spec_BoundOk, ok_spec_Brought, ok_spec_l13Add, ok_spec_SquareOver, ok_spec_AddWide, ok_spec_FracOk, ok_spec_ScaleWide, ok_spec_l3Zero, ok_spec_l3Order, ok_impl_isCount, ok_impl_BoundOk, ok_impl_Brought, ok__impl_Slot__plus, ok_impl_SquareOver, ok_impl_AddWide, ok_impl_fracOf, ok_impl_FracOk, ok_impl_ScaleWide, ok_impl_wideOf, ok_impl_compareSizes, ok_cmp_isNaN_int_, ok_spec_AddInt, ok_spec_MulWide, ok_spec_WideOk, ok_spec_l3Abs, ok_spec_l3Product, ok_impl_AddInt, ok_impl_MulWide, ok_impl_WideOk, ok_math_bits_Sub64, ok_math_bits_Add64, ok_impl_size, ok_math_bits_Mul64, ok_cmp_Compare_uint64_, ok_cmp_isNaN_uint64_⟩
end Go.Pe
