/- The compact texts of the functions that the law reaches; no condition. -/
import Derived.Test.YthkhmepjmcojkaaGreatK0
set_option linter.all false
namespace Go.Pe
open Go
@[simp] theorem M_laws_toConfig : modesOf T k_laws_toConfig = [] := modesOf_code T_laws_toConfig

theorem T_laws_eqConfig : T k_laws_eqConfig = some (fnOf k_laws_eqConfig_ic k_laws_eqConfig_rv []) := rfl

@[simp] theorem M_laws_eqConfig : modesOf T k_laws_eqConfig = [] := modesOf_code T_laws_eqConfig

theorem T_laws_szGrid : T k_laws_szGrid = some (fnOf k_laws_szGrid_ic k_laws_szGrid_rv []) := rfl

@[simp] theorem M_laws_szGrid : modesOf T k_laws_szGrid = [] := modesOf_code T_laws_szGrid

theorem T_laws_toGrid : T k_laws_toGrid = some (fnOf k_laws_toGrid_ic k_laws_toGrid_rv []) := rfl

@[simp] theorem M_laws_toGrid : modesOf T k_laws_toGrid = [] := modesOf_code T_laws_toGrid

theorem T_laws_toIntS : T k_laws_toIntS = some (fnOf k_laws_toIntS_ic k_laws_toIntS_rv []) := rfl

@[simp] theorem M_laws_toIntS : modesOf T k_laws_toIntS = [] := modesOf_code T_laws_toIntS

theorem T_laws_eqGrid : T k_laws_eqGrid = some (fnOf k_laws_eqGrid_ic k_laws_eqGrid_rv []) := rfl

@[simp] theorem M_laws_eqGrid : modesOf T k_laws_eqGrid = [] := modesOf_code T_laws_eqGrid

theorem T_laws_eqIntS : T k_laws_eqIntS = some (fnOf k_laws_eqIntS_ic k_laws_eqIntS_rv []) := rfl

@[simp] theorem M_laws_eqIntS : modesOf T k_laws_eqIntS = [] := modesOf_code T_laws_eqIntS

theorem T_spec_PartOf : T k_spec_PartOf = some (fnOf k_spec_PartOf_ic k_spec_PartOf_rv []) := rfl

@[simp] theorem M_spec_PartOf : modesOf T k_spec_PartOf = [] := modesOf_code T_spec_PartOf

theorem T_laws_toBound : T k_laws_toBound = some (fnOf k_laws_toBound_ic k_laws_toBound_rv []) := rfl

@[simp] theorem M_laws_toBound : modesOf T k_laws_toBound = [] := modesOf_code T_laws_toBound

theorem T_impl_PartOf : T k_impl_PartOf = some (fnOf k_impl_PartOf_ic k_impl_PartOf_rv []) := rfl

@[simp] theorem M_impl_PartOf : modesOf T k_impl_PartOf = [] := modesOf_code T_impl_PartOf

theorem T_laws_eqCand : T k_laws_eqCand = some (fnOf k_laws_eqCand_ic k_laws_eqCand_rv []) := rfl

@[simp] theorem M_laws_eqCand : modesOf T k_laws_eqCand = [] := modesOf_code T_laws_eqCand

theorem T_spec_Better : T k_spec_Better = some (fnOf k_spec_Better_ic k_spec_Better_rv []) := rfl

@[simp] theorem M_spec_Better : modesOf T k_spec_Better = [] := modesOf_code T_spec_Better

theorem T_impl_SideValues : T k_impl_SideValues = some (fnOf k_impl_SideValues_ic k_impl_SideValues_rv []) := rfl

@[simp] theorem M_impl_SideValues : modesOf T k_impl_SideValues = [] := modesOf_code T_impl_SideValues

theorem T_impl_ConfigOk : T k_impl_ConfigOk = some (fnOf k_impl_ConfigOk_ic k_impl_ConfigOk_rv []) := rfl

@[simp] theorem M_impl_ConfigOk : modesOf T k_impl_ConfigOk = [] := modesOf_code T_impl_ConfigOk

theorem T_impl_Agrees : T k_impl_Agrees = some (fnOf k_impl_Agrees_ic k_impl_Agrees_rv []) := rfl

@[simp] theorem M_impl_Agrees : modesOf T k_impl_Agrees = [] := modesOf_code T_impl_Agrees

theorem T_impl_SignFor : T k_impl_SignFor = some (fnOf k_impl_SignFor_ic k_impl_SignFor_rv []) := rfl

@[simp] theorem M_impl_SignFor : modesOf T k_impl_SignFor = [] := modesOf_code T_impl_SignFor

theorem T_impl_Improves : T k_impl_Improves = some (fnOf k_impl_Improves_ic k_impl_Improves_rv []) := rfl

@[simp] theorem M_impl_Improves : modesOf T k_impl_Improves = [] := modesOf_code T_impl_Improves

theorem T_spec_SideValues : T k_spec_SideValues = some (fnOf k_spec_SideValues_ic k_spec_SideValues_rv []) := rfl

@[simp] theorem M_spec_SideValues : modesOf T k_spec_SideValues = [] := modesOf_code T_spec_SideValues

theorem T_spec_ConfigOk : T k_spec_ConfigOk = some (fnOf k_spec_ConfigOk_ic k_spec_ConfigOk_rv []) := rfl

@[simp] theorem M_spec_ConfigOk : modesOf T k_spec_ConfigOk = [] := modesOf_code T_spec_ConfigOk

theorem T_spec_Agrees : T k_spec_Agrees = some (fnOf k_spec_Agrees_ic k_spec_Agrees_rv []) := rfl

@[simp] theorem M_spec_Agrees : modesOf T k_spec_Agrees = [] := modesOf_code T_spec_Agrees

theorem T_spec_SignFor : T k_spec_SignFor = some (fnOf k_spec_SignFor_ic k_spec_SignFor_rv []) := rfl

@[simp] theorem M_spec_SignFor : modesOf T k_spec_SignFor = [] := modesOf_code T_spec_SignFor

theorem T_spec_Improves : T k_spec_Improves = some (fnOf k_spec_Improves_ic k_spec_Improves_rv []) := rfl

@[simp] theorem M_spec_Improves : modesOf T k_spec_Improves = [] := modesOf_code T_spec_Improves

theorem T_impl_GainOf : T k_impl_GainOf = some (fnOf k_impl_GainOf_ic k_impl_GainOf_rv []) := rfl

@[simp] theorem M_impl_GainOf : modesOf T k_impl_GainOf = [] := modesOf_code T_impl_GainOf

theorem T_impl_CompareFrac : T k_impl_CompareFrac = some (fnOf k_impl_CompareFrac_ic k_impl_CompareFrac_rv []) := rfl

@[simp] theorem M_impl_CompareFrac : modesOf T k_impl_CompareFrac = [] := modesOf_code T_impl_CompareFrac

theorem T_impl_CandLess : T k_impl_CandLess = some (fnOf k_impl_CandLess_ic k_impl_CandLess_rv []) := rfl

@[simp] theorem M_impl_CandLess : modesOf T k_impl_CandLess = [] := modesOf_code T_impl_CandLess

theorem T_spec_PlainGain : T k_spec_PlainGain = some (fnOf k_spec_PlainGain_ic k_spec_PlainGain_rv []) := rfl

@[simp] theorem M_spec_PlainGain : modesOf T k_spec_PlainGain = [] := modesOf_code T_spec_PlainGain

theorem T_spec_AddFrac : T k_spec_AddFrac = some (fnOf k_spec_AddFrac_ic k_spec_AddFrac_rv []) := rfl

@[simp] theorem M_spec_AddFrac : modesOf T k_spec_AddFrac = [] := modesOf_code T_spec_AddFrac

theorem T_spec_l5Cross : T k_spec_l5Cross = some (fnOf k_spec_l5Cross_ic k_spec_l5Cross_rv []) := rfl

@[simp] theorem M_spec_l5Cross : modesOf T k_spec_l5Cross = [] := modesOf_code T_spec_l5Cross

theorem T_spec_CompareWide : T k_spec_CompareWide = some (fnOf k_spec_CompareWide_ic k_spec_CompareWide_rv []) := rfl

@[simp] theorem M_spec_CompareWide : modesOf T k_spec_CompareWide = [] := modesOf_code T_spec_CompareWide

theorem T_laws_szIntSS : T k_laws_szIntSS = some (fnOf k_laws_szIntSS_ic k_laws_szIntSS_rv []) := rfl

@[simp] theorem M_laws_szIntSS : modesOf T k_laws_szIntSS = [] := modesOf_code T_laws_szIntSS

theorem T_laws_szIntS : T k_laws_szIntS = some (fnOf k_laws_szIntS_ic k_laws_szIntS_rv []) := rfl

@[simp] theorem M_laws_szIntS : modesOf T k_laws_szIntS = [] := modesOf_code T_laws_szIntS

theorem T_laws_toIntSS : T k_laws_toIntSS = some (fnOf k_laws_toIntSS_ic k_laws_toIntSS_rv []) := rfl

@[simp] theorem M_laws_toIntSS : modesOf T k_laws_toIntSS = [] := modesOf_code T_laws_toIntSS

theorem T_laws_eqIntSS : T k_laws_eqIntSS = some (fnOf k_laws_eqIntSS_ic k_laws_eqIntSS_rv []) := rfl

@[simp] theorem M_laws_eqIntSS : modesOf T k_laws_eqIntSS = [] := modesOf_code T_laws_eqIntSS

theorem T_spec_TaskOk : T k_spec_TaskOk = some (fnOf k_spec_TaskOk_ic k_spec_TaskOk_rv []) := rfl

@[simp] theorem M_spec_TaskOk : modesOf T k_spec_TaskOk = [] := modesOf_code T_spec_TaskOk

theorem T_impl_TaskOk : T k_impl_TaskOk = some (fnOf k_impl_TaskOk_ic k_impl_TaskOk_rv []) := rfl

@[simp] theorem M_impl_TaskOk : modesOf T k_impl_TaskOk = [] := modesOf_code T_impl_TaskOk

theorem T_impl_RowsIn : T k_impl_RowsIn = some (fnOf k_impl_RowsIn_ic k_impl_RowsIn_rv []) := rfl

@[simp] theorem M_impl_RowsIn : modesOf T k_impl_RowsIn = [] := modesOf_code T_impl_RowsIn

theorem T_spec_NodeHists : T k_spec_NodeHists = some (fnOf k_spec_NodeHists_ic k_spec_NodeHists_rv []) := rfl

@[simp] theorem M_spec_NodeHists : modesOf T k_spec_NodeHists = [] := modesOf_code T_spec_NodeHists

theorem T_spec_CandsOf : T k_spec_CandsOf = some (fnOf k_spec_CandsOf_ic k_spec_CandsOf_rv []) := rfl

@[simp] theorem M_spec_CandsOf : modesOf T k_spec_CandsOf = [] := modesOf_code T_spec_CandsOf

theorem T_impl_NodeHists : T k_impl_NodeHists = some (fnOf k_impl_NodeHists_ic k_impl_NodeHists_rv []) := rfl

@[simp] theorem M_impl_NodeHists : modesOf T k_impl_NodeHists = [] := modesOf_code T_impl_NodeHists

theorem T_impl_CandsOf : T k_impl_CandsOf = some (fnOf k_impl_CandsOf_ic k_impl_CandsOf_rv []) := rfl

@[simp] theorem M_impl_CandsOf : modesOf T k_impl_CandsOf = [] := modesOf_code T_impl_CandsOf

theorem T_laws_eqSlot : T k_laws_eqSlot = some (fnOf k_laws_eqSlot_ic k_laws_eqSlot_rv []) := rfl

@[simp] theorem M_laws_eqSlot : modesOf T k_laws_eqSlot = [] := modesOf_code T_laws_eqSlot

theorem T_spec_l1In : T k_spec_l1In = some (fnOf k_spec_l1In_ic k_spec_l1In_rv []) := rfl

@[simp] theorem M_spec_l1In : modesOf T k_spec_l1In = [] := modesOf_code T_spec_l1In

theorem T_spec_LeafOf : T k_spec_LeafOf = some (fnOf k_spec_LeafOf_ic k_spec_LeafOf_rv []) := rfl

@[simp] theorem M_spec_LeafOf : modesOf T k_spec_LeafOf = [] := modesOf_code T_spec_LeafOf

theorem T_impl_LeafOf : T k_impl_LeafOf = some (fnOf k_impl_LeafOf_ic k_impl_LeafOf_rv []) := rfl

@[simp] theorem M_impl_LeafOf : modesOf T k_impl_LeafOf = [] := modesOf_code T_impl_LeafOf

theorem T_spec_CandLess : T k_spec_CandLess = some (fnOf k_spec_CandLess_ic k_spec_CandLess_rv []) := rfl

@[simp] theorem M_spec_CandLess : modesOf T k_spec_CandLess = [] := modesOf_code T_spec_CandLess

theorem T_impl_within : T k_impl_within = some (fnOf k_impl_within_ic k_impl_within_rv []) := rfl

@[simp] theorem M_impl_within : modesOf T k_impl_within = [] := modesOf_code T_impl_within

theorem T_slices_ContainsFunc___int_int_ : T k_slices_ContainsFunc___int_int_ = some (fnOf k_slices_ContainsFunc___int_int__ic k_slices_ContainsFunc___int_int__rv []) := rfl

@[simp] theorem M_slices_ContainsFunc___int_int_ : modesOf T k_slices_ContainsFunc___int_int_ = [] := modesOf_code T_slices_ContainsFunc___int_int_

theorem T_impl_ConfigOk_1 : T k_impl_ConfigOk_1 = some (fnOf k_impl_ConfigOk_1_ic k_impl_ConfigOk_1_rv []) := rfl

@[simp] theorem M_impl_ConfigOk_1 : modesOf T k_impl_ConfigOk_1 = [] := modesOf_code T_impl_ConfigOk_1

theorem T_impl_isSign : T k_impl_isSign = some (fnOf k_impl_isSign_ic k_impl_isSign_rv []) := rfl

@[simp] theorem M_impl_isSign : modesOf T k_impl_isSign = [] := modesOf_code T_impl_isSign

theorem T_impl_BothOf : T k_impl_BothOf = some (fnOf k_impl_BothOf_ic k_impl_BothOf_rv []) := rfl

@[simp] theorem M_impl_BothOf : modesOf T k_impl_BothOf = [] := modesOf_code T_impl_BothOf

theorem T_impl_PlainGain : T k_impl_PlainGain = some (fnOf k_impl_PlainGain_ic k_impl_PlainGain_rv []) := rfl

@[simp] theorem M_impl_PlainGain : modesOf T k_impl_PlainGain = [] := modesOf_code T_impl_PlainGain

theorem T_spec_l8Numbers : T k_spec_l8Numbers = some (fnOf k_spec_l8Numbers_ic k_spec_l8Numbers_rv []) := rfl

@[simp] theorem M_spec_l8Numbers : modesOf T k_spec_l8Numbers = [] := modesOf_code T_spec_l8Numbers

theorem T_spec_l8Least : T k_spec_l8Least = some (fnOf k_spec_l8Least_ic k_spec_l8Least_rv []) := rfl

@[simp] theorem M_spec_l8Least : modesOf T k_spec_l8Least = [] := modesOf_code T_spec_l8Least

theorem T_spec_l8Most : T k_spec_l8Most = some (fnOf k_spec_l8Most_ic k_spec_l8Most_rv []) := rfl

@[simp] theorem M_spec_l8Most : modesOf T k_spec_l8Most = [] := modesOf_code T_spec_l8Most

theorem T_spec_BothOf : T k_spec_BothOf = some (fnOf k_spec_BothOf_ic k_spec_BothOf_rv []) := rfl

@[simp] theorem M_spec_BothOf : modesOf T k_spec_BothOf = [] := modesOf_code T_spec_BothOf

theorem T_impl_AddFrac : T k_impl_AddFrac = some (fnOf k_impl_AddFrac_ic k_impl_AddFrac_rv []) := rfl

@[simp] theorem M_impl_AddFrac : modesOf T k_impl_AddFrac = [] := modesOf_code T_impl_AddFrac

theorem T_impl_crossed : T k_impl_crossed = some (fnOf k_impl_crossed_ic k_impl_crossed_rv []) := rfl

@[simp] theorem M_impl_crossed : modesOf T k_impl_crossed = [] := modesOf_code T_impl_crossed

theorem T_impl_CompareWide : T k_impl_CompareWide = some (fnOf k_impl_CompareWide_ic k_impl_CompareWide_rv []) := rfl

@[simp] theorem M_impl_CompareWide : modesOf T k_impl_CompareWide = [] := modesOf_code T_impl_CompareWide

theorem T_cmp_Or_int_ : T k_cmp_Or_int_ = some (fnOf k_cmp_Or_int__ic k_cmp_Or_int__rv []) := rfl

@[simp] theorem M_cmp_Or_int_ : modesOf T k_cmp_Or_int_ = [] := modesOf_code T_cmp_Or_int_

theorem T_cmp_Compare_int_ : T k_cmp_Compare_int_ = some (fnOf k_cmp_Compare_int__ic k_cmp_Compare_int__rv []) := rfl

@[simp] theorem M_cmp_Compare_int_ : modesOf T k_cmp_Compare_int_ = [] := modesOf_code T_cmp_Compare_int_

theorem T_spec_SquareOver : T k_spec_SquareOver = some (fnOf k_spec_SquareOver_ic k_spec_SquareOver_rv []) := rfl

@[simp] theorem M_spec_SquareOver : modesOf T k_spec_SquareOver = [] := modesOf_code T_spec_SquareOver

theorem T_spec_AddWide : T k_spec_AddWide = some (fnOf k_spec_AddWide_ic k_spec_AddWide_rv []) := rfl

@[simp] theorem M_spec_AddWide : modesOf T k_spec_AddWide = [] := modesOf_code T_spec_AddWide

theorem T_spec_FracOk : T k_spec_FracOk = some (fnOf k_spec_FracOk_ic k_spec_FracOk_rv []) := rfl

@[simp] theorem M_spec_FracOk : modesOf T k_spec_FracOk = [] := modesOf_code T_spec_FracOk

theorem T_spec_ScaleWide : T k_spec_ScaleWide = some (fnOf k_spec_ScaleWide_ic k_spec_ScaleWide_rv []) := rfl

@[simp] theorem M_spec_ScaleWide : modesOf T k_spec_ScaleWide = [] := modesOf_code T_spec_ScaleWide

theorem T_spec_l3Zero : T k_spec_l3Zero = some (fnOf k_spec_l3Zero_ic k_spec_l3Zero_rv []) := rfl

@[simp] theorem M_spec_l3Zero : modesOf T k_spec_l3Zero = [] := modesOf_code T_spec_l3Zero

theorem T_spec_l3Order : T k_spec_l3Order = some (fnOf k_spec_l3Order_ic k_spec_l3Order_rv []) := rfl

@[simp] theorem M_spec_l3Order : modesOf T k_spec_l3Order = [] := modesOf_code T_spec_l3Order

theorem T_spec_l6Value : T k_spec_l6Value = some (fnOf k_spec_l6Value_ic k_spec_l6Value_rv []) := rfl

@[simp] theorem M_spec_l6Value : modesOf T k_spec_l6Value = [] := modesOf_code T_spec_l6Value

theorem T_spec_AddInt : T k_spec_AddInt = some (fnOf k_spec_AddInt_ic k_spec_AddInt_rv []) := rfl

@[simp] theorem M_spec_AddInt : modesOf T k_spec_AddInt = [] := modesOf_code T_spec_AddInt

theorem T_spec_FloorDiv : T k_spec_FloorDiv = some (fnOf k_spec_FloorDiv_ic k_spec_FloorDiv_rv []) := rfl

@[simp] theorem M_spec_FloorDiv : modesOf T k_spec_FloorDiv = [] := modesOf_code T_spec_FloorDiv

theorem T_impl_areDecimals : T k_impl_areDecimals = some (fnOf k_impl_areDecimals_ic k_impl_areDecimals_rv []) := rfl

@[simp] theorem M_impl_areDecimals : modesOf T k_impl_areDecimals = [] := modesOf_code T_impl_areDecimals

theorem T_impl_AddInt : T k_impl_AddInt = some (fnOf k_impl_AddInt_ic k_impl_AddInt_rv []) := rfl

@[simp] theorem M_impl_AddInt : modesOf T k_impl_AddInt = [] := modesOf_code T_impl_AddInt

theorem T_impl_FloorDiv : T k_impl_FloorDiv = some (fnOf k_impl_FloorDiv_ic k_impl_FloorDiv_rv []) := rfl

@[simp] theorem M_impl_FloorDiv : modesOf T k_impl_FloorDiv = [] := modesOf_code T_impl_FloorDiv

theorem T_impl_isDecimal : T k_impl_isDecimal = some (fnOf k_impl_isDecimal_ic k_impl_isDecimal_rv []) := rfl

@[simp] theorem M_impl_isDecimal : modesOf T k_impl_isDecimal = [] := modesOf_code T_impl_isDecimal

theorem T_spec_GridOk : T k_spec_GridOk = some (fnOf k_spec_GridOk_ic k_spec_GridOk_rv []) := rfl

@[simp] theorem M_spec_GridOk : modesOf T k_spec_GridOk = [] := modesOf_code T_spec_GridOk

theorem T_spec_RowsIn : T k_spec_RowsIn = some (fnOf k_spec_RowsIn_ic k_spec_RowsIn_rv []) := rfl

@[simp] theorem M_spec_RowsIn : modesOf T k_spec_RowsIn = [] := modesOf_code T_spec_RowsIn

theorem T_impl_GridOk : T k_impl_GridOk = some (fnOf k_impl_GridOk_ic k_impl_GridOk_rv []) := rfl

@[simp] theorem M_impl_GridOk : modesOf T k_impl_GridOk = [] := modesOf_code T_impl_GridOk

theorem T_impl_TaskOk_1 : T k_impl_TaskOk_1 = some (fnOf k_impl_TaskOk_1_ic k_impl_TaskOk_1_rv []) := rfl

@[simp] theorem M_impl_TaskOk_1 : modesOf T k_impl_TaskOk_1 = [] := modesOf_code T_impl_TaskOk_1

theorem T_spec_HistOf : T k_spec_HistOf = some (fnOf k_spec_HistOf_ic k_spec_HistOf_rv []) := rfl

@[simp] theorem M_spec_HistOf : modesOf T k_spec_HistOf = [] := modesOf_code T_spec_HistOf

theorem T_spec_Prefix : T k_spec_Prefix = some (fnOf k_spec_Prefix_ic k_spec_Prefix_rv []) := rfl

@[simp] theorem M_spec_Prefix : modesOf T k_spec_Prefix = [] := modesOf_code T_spec_Prefix

theorem T_spec_SubInt : T k_spec_SubInt = some (fnOf k_spec_SubInt_ic k_spec_SubInt_rv []) := rfl

@[simp] theorem M_spec_SubInt : modesOf T k_spec_SubInt = [] := modesOf_code T_spec_SubInt

theorem T_impl_HistOf : T k_impl_HistOf = some (fnOf k_impl_HistOf_ic k_impl_HistOf_rv []) := rfl

@[simp] theorem M_impl_HistOf : modesOf T k_impl_HistOf = [] := modesOf_code T_impl_HistOf

theorem T_impl_Prefix : T k_impl_Prefix = some (fnOf k_impl_Prefix_ic k_impl_Prefix_rv []) := rfl

@[simp] theorem M_impl_Prefix : modesOf T k_impl_Prefix = [] := modesOf_code T_impl_Prefix

theorem T__impl_Slot__minus : T k__impl_Slot__minus = some (fnOf k__impl_Slot__minus_ic k__impl_Slot__minus_rv []) := rfl

@[simp] theorem M__impl_Slot__minus : modesOf T k__impl_Slot__minus = [] := modesOf_code T__impl_Slot__minus

theorem T_spec_BoundOk : T k_spec_BoundOk = some (fnOf k_spec_BoundOk_ic k_spec_BoundOk_rv []) := rfl

@[simp] theorem M_spec_BoundOk : modesOf T k_spec_BoundOk = [] := modesOf_code T_spec_BoundOk

theorem T_spec_Brought : T k_spec_Brought = some (fnOf k_spec_Brought_ic k_spec_Brought_rv []) := rfl

@[simp] theorem M_spec_Brought : modesOf T k_spec_Brought = [] := modesOf_code T_spec_Brought

theorem T_impl_isCount : T k_impl_isCount = some (fnOf k_impl_isCount_ic k_impl_isCount_rv []) := rfl

@[simp] theorem M_impl_isCount : modesOf T k_impl_isCount = [] := modesOf_code T_impl_isCount

theorem T_impl_BoundOk : T k_impl_BoundOk = some (fnOf k_impl_BoundOk_ic k_impl_BoundOk_rv []) := rfl

@[simp] theorem M_impl_BoundOk : modesOf T k_impl_BoundOk = [] := modesOf_code T_impl_BoundOk

theorem T_impl_Brought : T k_impl_Brought = some (fnOf k_impl_Brought_ic k_impl_Brought_rv []) := rfl

@[simp] theorem M_impl_Brought : modesOf T k_impl_Brought = [] := modesOf_code T_impl_Brought

theorem T_slices_IndexFunc___int_int_ : T k_slices_IndexFunc___int_int_ = some (fnOf k_slices_IndexFunc___int_int__ic k_slices_IndexFunc___int_int__rv []) := rfl

@[simp] theorem M_slices_IndexFunc___int_int_ : modesOf T k_slices_IndexFunc___int_int_ = [] := modesOf_code T_slices_IndexFunc___int_int_

theorem T__impl_Slot__plus : T k__impl_Slot__plus = some (fnOf k__impl_Slot__plus_ic k__impl_Slot__plus_rv []) := rfl

@[simp] theorem M__impl_Slot__plus : modesOf T k__impl_Slot__plus = [] := modesOf_code T__impl_Slot__plus

theorem T_impl_SquareOver : T k_impl_SquareOver = some (fnOf k_impl_SquareOver_ic k_impl_SquareOver_rv []) := rfl

@[simp] theorem M_impl_SquareOver : modesOf T k_impl_SquareOver = [] := modesOf_code T_impl_SquareOver

theorem T_spec_l13Add : T k_spec_l13Add = some (fnOf k_spec_l13Add_ic k_spec_l13Add_rv []) := rfl

@[simp] theorem M_spec_l13Add : modesOf T k_spec_l13Add = [] := modesOf_code T_spec_l13Add

theorem T_impl_AddWide : T k_impl_AddWide = some (fnOf k_impl_AddWide_ic k_impl_AddWide_rv []) := rfl

@[simp] theorem M_impl_AddWide : modesOf T k_impl_AddWide = [] := modesOf_code T_impl_AddWide

theorem T_impl_fracOf : T k_impl_fracOf = some (fnOf k_impl_fracOf_ic k_impl_fracOf_rv []) := rfl

@[simp] theorem M_impl_fracOf : modesOf T k_impl_fracOf = [] := modesOf_code T_impl_fracOf

theorem T_impl_FracOk : T k_impl_FracOk = some (fnOf k_impl_FracOk_ic k_impl_FracOk_rv []) := rfl

@[simp] theorem M_impl_FracOk : modesOf T k_impl_FracOk = [] := modesOf_code T_impl_FracOk

theorem T_impl_ScaleWide : T k_impl_ScaleWide = some (fnOf k_impl_ScaleWide_ic k_impl_ScaleWide_rv []) := rfl

@[simp] theorem M_impl_ScaleWide : modesOf T k_impl_ScaleWide = [] := modesOf_code T_impl_ScaleWide

theorem T_impl_wideOf : T k_impl_wideOf = some (fnOf k_impl_wideOf_ic k_impl_wideOf_rv []) := rfl

@[simp] theorem M_impl_wideOf : modesOf T k_impl_wideOf = [] := modesOf_code T_impl_wideOf

theorem T_impl_compareSizes : T k_impl_compareSizes = some (fnOf k_impl_compareSizes_ic k_impl_compareSizes_rv []) := rfl

@[simp] theorem M_impl_compareSizes : modesOf T k_impl_compareSizes = [] := modesOf_code T_impl_compareSizes

theorem T_cmp_isNaN_int_ : T k_cmp_isNaN_int_ = some (fnOf k_cmp_isNaN_int__ic k_cmp_isNaN_int__rv []) := rfl

@[simp] theorem M_cmp_isNaN_int_ : modesOf T k_cmp_isNaN_int_ = [] := modesOf_code T_cmp_isNaN_int_

theorem T_spec_MulWide : T k_spec_MulWide = some (fnOf k_spec_MulWide_ic k_spec_MulWide_rv []) := rfl

@[simp] theorem M_spec_MulWide : modesOf T k_spec_MulWide = [] := modesOf_code T_spec_MulWide

theorem T_spec_WideOk : T k_spec_WideOk = some (fnOf k_spec_WideOk_ic k_spec_WideOk_rv []) := rfl

@[simp] theorem M_spec_WideOk : modesOf T k_spec_WideOk = [] := modesOf_code T_spec_WideOk

theorem T_spec_l3Abs : T k_spec_l3Abs = some (fnOf k_spec_l3Abs_ic k_spec_l3Abs_rv []) := rfl

@[simp] theorem M_spec_l3Abs : modesOf T k_spec_l3Abs = [] := modesOf_code T_spec_l3Abs

theorem T_spec_l3Product : T k_spec_l3Product = some (fnOf k_spec_l3Product_ic k_spec_l3Product_rv []) := rfl

@[simp] theorem M_spec_l3Product : modesOf T k_spec_l3Product = [] := modesOf_code T_spec_l3Product

theorem T_impl_areDecimals_1 : T k_impl_areDecimals_1 = some (fnOf k_impl_areDecimals_1_ic k_impl_areDecimals_1_rv []) := rfl

@[simp] theorem M_impl_areDecimals_1 : modesOf T k_impl_areDecimals_1 = [] := modesOf_code T_impl_areDecimals_1

theorem T_spec_CutsOk : T k_spec_CutsOk = some (fnOf k_spec_CutsOk_ic k_spec_CutsOk_rv []) := rfl

@[simp] theorem M_spec_CutsOk : modesOf T k_spec_CutsOk = [] := modesOf_code T_spec_CutsOk

theorem T_impl_CutsOk : T k_impl_CutsOk = some (fnOf k_impl_CutsOk_ic k_impl_CutsOk_rv []) := rfl

@[simp] theorem M_impl_CutsOk : modesOf T k_impl_CutsOk = [] := modesOf_code T_impl_CutsOk

theorem T_impl_GridOk_1 : T k_impl_GridOk_1 = some (fnOf k_impl_GridOk_1_ic k_impl_GridOk_1_rv []) := rfl

@[simp] theorem M_impl_GridOk_1 : modesOf T k_impl_GridOk_1 = [] := modesOf_code T_impl_GridOk_1

theorem T_impl_SubInt : T k_impl_SubInt = some (fnOf k_impl_SubInt_ic k_impl_SubInt_rv []) := rfl

@[simp] theorem M_impl_SubInt : modesOf T k_impl_SubInt = [] := modesOf_code T_impl_SubInt

theorem T_spec_l14Leaf : T k_spec_l14Leaf = some (fnOf k_spec_l14Leaf_ic k_spec_l14Leaf_rv []) := rfl

@[simp] theorem M_spec_l14Leaf : modesOf T k_spec_l14Leaf = [] := modesOf_code T_spec_l14Leaf

theorem T_impl_isLeafValue : T k_impl_isLeafValue = some (fnOf k_impl_isLeafValue_ic k_impl_isLeafValue_rv []) := rfl

@[simp] theorem M_impl_isLeafValue : modesOf T k_impl_isLeafValue = [] := modesOf_code T_impl_isLeafValue

theorem T_impl_MulWide : T k_impl_MulWide = some (fnOf k_impl_MulWide_ic k_impl_MulWide_rv []) := rfl

@[simp] theorem M_impl_MulWide : modesOf T k_impl_MulWide = [] := modesOf_code T_impl_MulWide

theorem T_impl_WideOk : T k_impl_WideOk = some (fnOf k_impl_WideOk_ic k_impl_WideOk_rv []) := rfl

@[simp] theorem M_impl_WideOk : modesOf T k_impl_WideOk = [] := modesOf_code T_impl_WideOk

theorem T_math_bits_Sub64 : T k_math_bits_Sub64 = some (.ext sub64G) := rfl

@[simp] theorem M_math_bits_Sub64 : modesOf T k_math_bits_Sub64 = [] := rfl

theorem T_math_bits_Add64 : T k_math_bits_Add64 = some (.ext add64G) := rfl

@[simp] theorem M_math_bits_Add64 : modesOf T k_math_bits_Add64 = [] := rfl

theorem T_impl_size : T k_impl_size = some (fnOf k_impl_size_ic k_impl_size_rv []) := rfl

@[simp] theorem M_impl_size : modesOf T k_impl_size = [] := modesOf_code T_impl_size

theorem T_math_bits_Mul64 : T k_math_bits_Mul64 = some (fnOf k_math_bits_Mul64_ic k_math_bits_Mul64_rv []) := rfl

@[simp] theorem M_math_bits_Mul64 : modesOf T k_math_bits_Mul64 = [] := modesOf_code T_math_bits_Mul64

theorem T_cmp_Compare_uint64_ : T k_cmp_Compare_uint64_ = some (fnOf k_cmp_Compare_uint64__ic k_cmp_Compare_uint64__rv []) := rfl

@[simp] theorem M_cmp_Compare_uint64_ : modesOf T k_cmp_Compare_uint64_ = [] := modesOf_code T_cmp_Compare_uint64_

theorem T_cmp_isNaN_uint64_ : T k_cmp_isNaN_uint64_ = some (fnOf k_cmp_isNaN_uint64__ic k_cmp_isNaN_uint64__rv []) := rfl

@[simp] theorem M_cmp_isNaN_uint64_ : modesOf T k_cmp_isNaN_uint64_ = [] := modesOf_code T_cmp_isNaN_uint64_

end Go.Pe
