/- Contracts of functions that the law reaches: what each call returns and what it leaves in memory. Made by this session over the print of the kit. -/
import Derived.Test.YthmahcohcphljaaQFnHopsx0
import Derived.Test.YthmahcohcphljaaQFnHopsx5
import Derived.Test.YthmahcohcphljaaQFnHopsx6
import Derived.Test.YthmahcohcphljaaQFnHopsx10
import Derived.Test.YthmahcohcphljaaQFnHopsx12
import Derived.Test.YthmahcohcphljaaQFnHopsx14
import Derived.Test.YthmahcohcphljaaQFnHopsx15
namespace Go.Proofs.Ythmahcohcphljaa.QFnHops
open Go.RowKit Go.Proofs.YthmahcohcphljaaP.PrintWords Go.Proofs.YthmahcohcphljaaP.PrintLast Go.Proofs.YthmahcohcphljaaP.PrintMore
attribute [local go_sem] max2_int min2_int max_two min_two max_three min_three max_four min_four   -- for this text's walks alone
set_option linter.unusedVariables false
set_option linter.unusedSimpArgs false
abbrev tb16 : Bool := true
abbrev fb16 : Bool := false
def ba16_0 : Array Bool := #[fb16,fb16,fb16,fb16,fb16,fb16,fb16,fb16,fb16,fb16,fb16,fb16,fb16,fb16,fb16,fb16,fb16,fb16,fb16,fb16,fb16,fb16,fb16,fb16,fb16,fb16,fb16,fb16,fb16,fb16,fb16,fb16,fb16,fb16,fb16]
def ba16_1 : Array Bool := #[tb16,fb16,fb16,fb16,fb16,fb16,fb16,fb16,fb16,fb16,fb16,fb16,fb16,fb16,fb16,fb16,fb16,fb16,fb16,fb16,fb16,fb16,fb16,fb16,fb16,fb16,fb16,fb16,fb16,fb16,fb16,fb16,fb16,fb16,fb16]
def ba16_2 : Array Bool := #[tb16,tb16,fb16,fb16,fb16,fb16,fb16,fb16,fb16,fb16,fb16,fb16,fb16,fb16,fb16,fb16,fb16,fb16,fb16,fb16,fb16,fb16,fb16,fb16,fb16,fb16,fb16,fb16,fb16,fb16,fb16,fb16,fb16,fb16,fb16]
def ba16_3 : Array Bool := #[tb16,tb16,tb16,fb16,fb16,fb16,fb16,fb16,fb16,fb16,fb16,fb16,fb16,fb16,fb16,fb16,fb16,fb16,fb16,fb16,fb16,fb16,fb16,fb16,fb16,fb16,fb16,fb16,fb16,fb16,fb16,fb16,fb16,fb16,fb16]
def ba16_4 : Array Bool := #[tb16,tb16,tb16,fb16,tb16,fb16,fb16,fb16,fb16,fb16,fb16,fb16,fb16,fb16,fb16,fb16,fb16,fb16,fb16,fb16,fb16,fb16,fb16,fb16,fb16,fb16,fb16,fb16,fb16,fb16,fb16,fb16,fb16,fb16,fb16]
def ba16_5 : Array Bool := #[tb16,tb16,tb16,fb16,tb16,tb16,fb16,fb16,fb16,fb16,fb16,fb16,fb16,fb16,fb16,fb16,fb16,fb16,fb16,fb16,fb16,fb16,fb16,fb16,fb16,fb16,fb16,fb16,fb16,fb16,fb16,fb16,fb16,fb16,fb16]
def ba16_6 : Array Bool := #[tb16,tb16,tb16,fb16,tb16,tb16,tb16,fb16,fb16,fb16,fb16,fb16,fb16,fb16,fb16,fb16,fb16,fb16,fb16,fb16,fb16,fb16,fb16,fb16,fb16,fb16,fb16,fb16,fb16,fb16,fb16,fb16,fb16,fb16,fb16]
def ba16_7 : Array Bool := #[tb16,tb16,tb16,tb16,tb16,tb16,tb16,fb16,fb16,fb16,fb16,fb16,fb16,fb16,fb16,fb16,fb16,fb16,fb16,fb16,fb16,fb16,fb16,fb16,fb16,fb16,fb16,fb16,fb16,fb16,fb16,fb16,fb16,fb16,fb16]
def ba16_8 : Array Bool := #[tb16,tb16,tb16,tb16,tb16,tb16,tb16,tb16,fb16,fb16,fb16,fb16,fb16,fb16,fb16,fb16,fb16,fb16,fb16,fb16,fb16,fb16,fb16,fb16,fb16,fb16,fb16,fb16,fb16,fb16,fb16,fb16,fb16,fb16,fb16]
def ba16_9 : Array Bool := #[tb16,tb16,tb16,tb16,tb16,tb16,tb16,tb16,tb16,fb16,fb16,fb16,fb16,fb16,fb16,fb16,fb16,fb16,fb16,fb16,fb16,fb16,fb16,fb16,fb16,fb16,fb16,fb16,fb16,fb16,fb16,fb16,fb16,fb16,fb16]
def ba16_10 : Array Bool := #[tb16,tb16,tb16,tb16,tb16,tb16,tb16,tb16,tb16,tb16,fb16,fb16,fb16,fb16,fb16,fb16,fb16,fb16,fb16,fb16,fb16,fb16,fb16,fb16,fb16,fb16,fb16,fb16,fb16,fb16,fb16,fb16,fb16,fb16,fb16]
def ba16_11 : Array Bool := #[tb16,tb16,tb16,tb16,tb16,tb16,tb16,tb16,tb16,tb16,tb16,fb16,fb16,fb16,fb16,fb16,fb16,fb16,fb16,fb16,fb16,fb16,fb16,fb16,fb16,fb16,fb16,fb16,fb16,fb16,fb16,fb16,fb16,fb16,fb16]
def ba16_12 : Array Bool := #[tb16,tb16,tb16,tb16,tb16,tb16,tb16,tb16,tb16,tb16,tb16,tb16,fb16,fb16,fb16,fb16,fb16,fb16,fb16,fb16,fb16,fb16,fb16,fb16,fb16,fb16,fb16,fb16,fb16,fb16,fb16,fb16,fb16,fb16,fb16]
def ba16_13 : Array Bool := #[tb16,tb16,tb16,tb16,tb16,tb16,tb16,tb16,tb16,tb16,tb16,tb16,tb16,fb16,fb16,fb16,fb16,fb16,fb16,fb16,fb16,fb16,fb16,fb16,fb16,fb16,fb16,fb16,fb16,fb16,fb16,fb16,fb16,fb16,fb16]
def ba16_14 : Array Bool := #[tb16,tb16,tb16,tb16,tb16,tb16,tb16,tb16,tb16,tb16,tb16,tb16,tb16,tb16,fb16,fb16,fb16,fb16,fb16,fb16,fb16,fb16,fb16,fb16,fb16,fb16,fb16,fb16,fb16,fb16,fb16,fb16,fb16,fb16,fb16]
def ba16_15 : Array Bool := #[tb16,tb16,tb16,tb16,tb16,tb16,tb16,tb16,tb16,tb16,tb16,tb16,tb16,tb16,tb16,fb16,fb16,fb16,fb16,fb16,fb16,fb16,fb16,fb16,fb16,fb16,fb16,fb16,fb16,fb16,fb16,fb16,fb16,fb16,fb16]
def ba16_16 : Array Bool := #[tb16,tb16,tb16,tb16,tb16,tb16,tb16,tb16,tb16,tb16,tb16,tb16,tb16,tb16,tb16,tb16,fb16,fb16,fb16,fb16,fb16,fb16,fb16,fb16,fb16,fb16,fb16,fb16,fb16,fb16,fb16,fb16,fb16,fb16,fb16]
def ba16_17 : Array Bool := #[tb16,tb16,tb16,tb16,tb16,tb16,tb16,tb16,tb16,tb16,tb16,tb16,tb16,tb16,tb16,tb16,tb16,fb16,fb16,fb16,fb16,fb16,fb16,fb16,fb16,fb16,fb16,fb16,fb16,fb16,fb16,fb16,fb16,fb16,fb16]
def ba16_18 : Array Bool := #[tb16,tb16,tb16,tb16,tb16,tb16,tb16,tb16,tb16,tb16,tb16,tb16,tb16,tb16,tb16,tb16,tb16,tb16,fb16,fb16,fb16,fb16,fb16,fb16,fb16,fb16,fb16,fb16,fb16,fb16,fb16,fb16,fb16,fb16,fb16]
def ba16_19 : Array Bool := #[tb16,tb16,tb16,tb16,tb16,tb16,tb16,tb16,tb16,tb16,tb16,tb16,tb16,tb16,tb16,tb16,tb16,tb16,tb16,fb16,fb16,fb16,fb16,fb16,fb16,fb16,fb16,fb16,fb16,fb16,fb16,fb16,fb16,fb16,fb16]
def ba16_20 : Array Bool := #[tb16,tb16,tb16,tb16,tb16,tb16,tb16,tb16,tb16,tb16,tb16,tb16,tb16,tb16,tb16,tb16,tb16,tb16,tb16,tb16,fb16,fb16,fb16,fb16,fb16,fb16,fb16,fb16,fb16,fb16,fb16,fb16,fb16,fb16,fb16]
def ba16_21 : Array Bool := #[tb16,tb16,tb16,tb16,tb16,tb16,tb16,tb16,tb16,tb16,tb16,tb16,tb16,tb16,tb16,tb16,tb16,tb16,tb16,tb16,tb16,fb16,fb16,fb16,fb16,fb16,fb16,fb16,fb16,fb16,fb16,fb16,fb16,fb16,fb16]
def ba16_22 : Array Bool := #[tb16,tb16,tb16,tb16,tb16,tb16,tb16,tb16,tb16,tb16,tb16,tb16,tb16,tb16,tb16,tb16,tb16,tb16,tb16,tb16,tb16,tb16,fb16,fb16,fb16,fb16,fb16,fb16,fb16,fb16,fb16,fb16,fb16,fb16,fb16]
def ba16_23 : Array Bool := #[tb16,tb16,tb16,tb16,tb16,tb16,tb16,tb16,tb16,tb16,tb16,tb16,tb16,tb16,tb16,tb16,tb16,tb16,tb16,tb16,tb16,tb16,tb16,fb16,fb16,fb16,fb16,fb16,fb16,fb16,fb16,fb16,fb16,fb16,fb16]
def ba16_24 : Array Bool := #[tb16,tb16,tb16,tb16,tb16,tb16,tb16,tb16,tb16,tb16,tb16,tb16,tb16,tb16,tb16,tb16,tb16,tb16,tb16,tb16,tb16,tb16,tb16,tb16,fb16,fb16,fb16,fb16,fb16,fb16,fb16,fb16,fb16,fb16,fb16]
def ba16_25 : Array Bool := #[tb16,tb16,tb16,tb16,tb16,tb16,tb16,tb16,tb16,tb16,tb16,tb16,tb16,tb16,tb16,tb16,tb16,tb16,tb16,tb16,tb16,tb16,tb16,tb16,tb16,fb16,fb16,fb16,fb16,fb16,fb16,fb16,fb16,fb16,fb16]
def ba16_26 : Array Bool := #[tb16,tb16,tb16,tb16,tb16,tb16,tb16,tb16,tb16,tb16,tb16,tb16,tb16,tb16,tb16,tb16,tb16,tb16,tb16,tb16,tb16,tb16,tb16,tb16,tb16,tb16,fb16,fb16,fb16,fb16,fb16,fb16,fb16,fb16,fb16]
def ba16_27 : Array Bool := #[tb16,tb16,tb16,tb16,tb16,tb16,tb16,tb16,tb16,tb16,tb16,tb16,tb16,tb16,tb16,tb16,tb16,tb16,tb16,tb16,tb16,tb16,tb16,tb16,tb16,tb16,tb16,fb16,fb16,fb16,fb16,fb16,fb16,fb16,fb16]
def ba16_28 : Array Bool := #[tb16,tb16,tb16,tb16,tb16,tb16,tb16,tb16,tb16,tb16,tb16,tb16,tb16,tb16,tb16,tb16,tb16,tb16,tb16,tb16,tb16,tb16,tb16,tb16,tb16,tb16,tb16,tb16,fb16,fb16,fb16,fb16,fb16,fb16,fb16]
def ba16_29 : Array Bool := #[tb16,tb16,tb16,tb16,tb16,tb16,tb16,tb16,tb16,tb16,tb16,tb16,tb16,tb16,tb16,tb16,tb16,tb16,tb16,tb16,tb16,tb16,tb16,tb16,tb16,tb16,tb16,tb16,tb16,fb16,fb16,fb16,fb16,fb16,fb16]
def ba16_30 : Array Bool := #[tb16,tb16,tb16,tb16,tb16,tb16,tb16,tb16,tb16,tb16,tb16,tb16,tb16,tb16,tb16,tb16,tb16,tb16,tb16,tb16,tb16,tb16,tb16,tb16,tb16,tb16,tb16,tb16,tb16,tb16,fb16,fb16,fb16,fb16,fb16]
def ba16_31 : Array Bool := #[tb16,tb16,tb16,tb16,tb16,tb16,tb16,tb16,tb16,tb16,tb16,tb16,tb16,tb16,tb16,tb16,tb16,tb16,tb16,tb16,tb16,tb16,tb16,tb16,tb16,tb16,tb16,tb16,tb16,tb16,tb16,fb16,fb16,fb16,fb16]
def ba16_32 : Array Bool := #[tb16,tb16,tb16,tb16,tb16,tb16,tb16,tb16,tb16,tb16,tb16,tb16,tb16,tb16,tb16,tb16,tb16,tb16,tb16,tb16,tb16,tb16,tb16,tb16,tb16,tb16,tb16,tb16,tb16,tb16,tb16,tb16,fb16,fb16,fb16]
def ba16_33 : Array Bool := #[tb16,tb16,tb16,tb16,tb16,tb16,tb16,tb16,tb16,tb16,tb16,tb16,tb16,tb16,tb16,tb16,tb16,tb16,tb16,tb16,tb16,tb16,tb16,tb16,tb16,tb16,tb16,tb16,tb16,tb16,tb16,tb16,tb16,fb16,fb16]
def ba16_34 : Array Bool := #[tb16,tb16,tb16,tb16,tb16,tb16,tb16,tb16,tb16,tb16,tb16,tb16,tb16,tb16,tb16,tb16,tb16,tb16,tb16,tb16,tb16,tb16,tb16,tb16,tb16,tb16,tb16,tb16,tb16,tb16,tb16,tb16,tb16,tb16,fb16]
def ba16_35 : Array Bool := #[tb16,tb16,tb16,tb16,tb16,tb16,tb16,tb16,tb16,tb16,tb16,tb16,tb16,tb16,tb16,tb16,tb16,tb16,tb16,tb16,tb16,tb16,tb16,tb16,tb16,tb16,tb16,tb16,tb16,tb16,tb16,tb16,tb16,tb16,tb16]
def ba16_36 : Array Bool := #[fb16,fb16,fb16,fb16,fb16,fb16,fb16,fb16,fb16,fb16,fb16,fb16,fb16,fb16,fb16,fb16,fb16,fb16,fb16,fb16,fb16,fb16]
def ba16_37 : Array Bool := #[fb16,tb16,fb16,fb16,fb16,fb16,fb16,fb16,fb16,fb16,fb16,fb16,fb16,fb16,fb16,fb16,fb16,fb16,fb16,fb16,fb16,fb16]
def ba16_38 : Array Bool := #[fb16,tb16,tb16,fb16,fb16,fb16,fb16,fb16,fb16,fb16,fb16,fb16,fb16,fb16,fb16,fb16,fb16,fb16,fb16,fb16,fb16,fb16]
def ba16_39 : Array Bool := #[fb16,tb16,tb16,tb16,fb16,fb16,fb16,fb16,fb16,fb16,fb16,fb16,fb16,fb16,fb16,fb16,fb16,fb16,fb16,fb16,fb16,fb16]
def ba16_40 : Array Bool := #[fb16,tb16,tb16,tb16,tb16,fb16,fb16,fb16,fb16,fb16,fb16,fb16,fb16,fb16,fb16,fb16,fb16,fb16,fb16,fb16,fb16,fb16]
def ba16_41 : Array Bool := #[fb16,tb16,tb16,tb16,tb16,fb16,fb16,fb16,tb16,fb16,fb16,fb16,fb16,fb16,fb16,fb16,fb16,fb16,fb16,fb16,fb16,fb16]
def ba16_42 : Array Bool := #[fb16,tb16,tb16,tb16,tb16,fb16,fb16,fb16,tb16,tb16,fb16,fb16,fb16,fb16,fb16,fb16,fb16,fb16,fb16,fb16,fb16,fb16]
def ba16_43 : Array Bool := #[fb16,tb16,tb16,tb16,tb16,fb16,fb16,fb16,tb16,tb16,tb16,fb16,fb16,fb16,fb16,fb16,fb16,fb16,fb16,fb16,fb16,fb16]
def ba16_44 : Array Bool := #[fb16,tb16,tb16,tb16,tb16,fb16,fb16,fb16,tb16,tb16,tb16,fb16,fb16,tb16,fb16,fb16,fb16,fb16,fb16,fb16,fb16,fb16]
def ba16_45 : Array Bool := #[fb16,tb16,tb16,tb16,tb16,fb16,fb16,fb16,tb16,tb16,tb16,fb16,fb16,tb16,fb16,fb16,fb16,tb16,fb16,fb16,fb16,fb16]
def ba16_46 : Array Bool := #[fb16,tb16,tb16,tb16,tb16,fb16,fb16,fb16,tb16,tb16,tb16,fb16,fb16,tb16,fb16,fb16,fb16,tb16,tb16,fb16,fb16,fb16]
def ba16_47 : Array Bool := #[fb16,tb16,tb16,tb16,tb16,fb16,fb16,fb16,tb16,tb16,tb16,fb16,fb16,tb16,fb16,fb16,fb16,tb16,tb16,tb16,fb16,fb16]
def ba16_48 : Array Bool := #[tb16,tb16,tb16,tb16,tb16,fb16,fb16,fb16,tb16,tb16,tb16,fb16,fb16,tb16,fb16,fb16,fb16,tb16,tb16,tb16,fb16,fb16]
def ba16_49 : Array Bool := #[tb16,tb16,tb16,tb16,tb16,tb16,fb16,fb16,tb16,tb16,tb16,fb16,fb16,tb16,fb16,fb16,fb16,tb16,tb16,tb16,fb16,fb16]
def ba16_50 : Array Bool := #[tb16,tb16,tb16,tb16,tb16,tb16,fb16,tb16,tb16,tb16,tb16,fb16,fb16,tb16,fb16,fb16,fb16,tb16,tb16,tb16,fb16,fb16]
def ba16_51 : Array Bool := #[tb16,tb16,tb16,tb16,tb16,tb16,fb16,tb16,tb16,tb16,tb16,tb16,fb16,tb16,fb16,fb16,fb16,tb16,tb16,tb16,fb16,fb16]
def ba16_52 : Array Bool := #[tb16,tb16,tb16,tb16,tb16,tb16,fb16,tb16,tb16,tb16,tb16,tb16,fb16,tb16,fb16,fb16,fb16,tb16,tb16,tb16,tb16,fb16]
def ba16_53 : Array Bool := #[tb16,tb16,tb16,tb16,tb16,tb16,tb16,tb16,tb16,tb16,tb16,tb16,fb16,tb16,fb16,fb16,fb16,tb16,tb16,tb16,tb16,fb16]
def ba16_54 : Array Bool := #[tb16,tb16,tb16,tb16,tb16,tb16,tb16,tb16,tb16,tb16,tb16,tb16,tb16,tb16,fb16,fb16,fb16,tb16,tb16,tb16,tb16,fb16]
def ba16_55 : Array Bool := #[tb16,tb16,tb16,tb16,tb16,tb16,tb16,tb16,tb16,tb16,tb16,tb16,tb16,tb16,tb16,fb16,fb16,tb16,tb16,tb16,tb16,fb16]
def ba16_56 : Array Bool := #[tb16,tb16,tb16,tb16,tb16,tb16,tb16,tb16,tb16,tb16,tb16,tb16,tb16,tb16,tb16,tb16,fb16,tb16,tb16,tb16,tb16,fb16]
def ba16_57 : Array Bool := #[tb16,tb16,tb16,tb16,tb16,tb16,tb16,tb16,tb16,tb16,tb16,tb16,tb16,tb16,tb16,tb16,tb16,tb16,tb16,tb16,tb16,fb16]
def ba16_58 : Array Bool := #[tb16,tb16,tb16,tb16,tb16,tb16,tb16,tb16,tb16,tb16,tb16,tb16,tb16,tb16,tb16,tb16,tb16,tb16,tb16,tb16,tb16,tb16]
def ba16_59 : Array Bool := #[fb16,fb16,fb16,fb16,fb16,fb16,fb16,fb16,fb16,fb16,fb16,fb16,fb16,fb16,fb16,fb16,fb16,fb16,fb16,fb16,fb16,fb16,fb16,fb16,fb16,fb16,fb16,fb16]
def ba16_60 : Array Bool := #[tb16,fb16,fb16,fb16,fb16,fb16,fb16,fb16,fb16,fb16,fb16,fb16,fb16,fb16,fb16,fb16,fb16,fb16,fb16,fb16,fb16,fb16,fb16,fb16,fb16,fb16,fb16,fb16]
def ba16_61 : Array Bool := #[tb16,tb16,fb16,fb16,fb16,fb16,fb16,fb16,fb16,fb16,fb16,fb16,fb16,fb16,fb16,fb16,fb16,fb16,fb16,fb16,fb16,fb16,fb16,fb16,fb16,fb16,fb16,fb16]
def ba16_62 : Array Bool := #[tb16,tb16,tb16,fb16,fb16,fb16,fb16,fb16,fb16,fb16,fb16,fb16,fb16,fb16,fb16,fb16,fb16,fb16,fb16,fb16,fb16,fb16,fb16,fb16,fb16,fb16,fb16,fb16]
def ba16_63 : Array Bool := #[tb16,tb16,tb16,fb16,fb16,tb16,fb16,fb16,fb16,fb16,fb16,fb16,fb16,fb16,fb16,fb16,fb16,fb16,fb16,fb16,fb16,fb16,fb16,fb16,fb16,fb16,fb16,fb16]
def ba16_64 : Array Bool := #[tb16,tb16,tb16,fb16,fb16,tb16,tb16,fb16,fb16,fb16,fb16,fb16,fb16,fb16,fb16,fb16,fb16,fb16,fb16,fb16,fb16,fb16,fb16,fb16,fb16,fb16,fb16,fb16]
def ba16_65 : Array Bool := #[tb16,tb16,tb16,fb16,fb16,tb16,tb16,tb16,fb16,fb16,fb16,fb16,fb16,fb16,fb16,fb16,fb16,fb16,fb16,fb16,fb16,fb16,fb16,fb16,fb16,fb16,fb16,fb16]
def ba16_66 : Array Bool := #[tb16,tb16,tb16,tb16,fb16,tb16,tb16,tb16,fb16,fb16,fb16,fb16,fb16,fb16,fb16,fb16,fb16,fb16,fb16,fb16,fb16,fb16,fb16,fb16,fb16,fb16,fb16,fb16]
def ba16_67 : Array Bool := #[tb16,tb16,tb16,tb16,tb16,tb16,tb16,tb16,fb16,fb16,fb16,fb16,fb16,fb16,fb16,fb16,fb16,fb16,fb16,fb16,fb16,fb16,fb16,fb16,fb16,fb16,fb16,fb16]
def ba16_68 : Array Bool := #[tb16,tb16,tb16,tb16,tb16,tb16,tb16,tb16,tb16,fb16,fb16,fb16,fb16,fb16,fb16,fb16,fb16,fb16,fb16,fb16,fb16,fb16,fb16,fb16,fb16,fb16,fb16,fb16]
def ba16_69 : Array Bool := #[tb16,tb16,tb16,tb16,tb16,tb16,tb16,tb16,tb16,tb16,fb16,fb16,fb16,fb16,fb16,fb16,fb16,fb16,fb16,fb16,fb16,fb16,fb16,fb16,fb16,fb16,fb16,fb16]
def ba16_70 : Array Bool := #[tb16,tb16,tb16,tb16,tb16,tb16,tb16,tb16,tb16,tb16,tb16,fb16,fb16,fb16,fb16,fb16,fb16,fb16,fb16,fb16,fb16,fb16,fb16,fb16,fb16,fb16,fb16,fb16]
def ba16_71 : Array Bool := #[tb16,tb16,tb16,tb16,tb16,tb16,tb16,tb16,tb16,tb16,tb16,tb16,fb16,fb16,fb16,fb16,fb16,fb16,fb16,fb16,fb16,fb16,fb16,fb16,fb16,fb16,fb16,fb16]
def ba16_72 : Array Bool := #[tb16,tb16,tb16,tb16,tb16,tb16,tb16,tb16,tb16,tb16,tb16,tb16,tb16,fb16,fb16,fb16,fb16,fb16,fb16,fb16,fb16,fb16,fb16,fb16,fb16,fb16,fb16,fb16]
def ba16_73 : Array Bool := #[tb16,tb16,tb16,tb16,tb16,tb16,tb16,tb16,tb16,tb16,tb16,tb16,tb16,tb16,fb16,fb16,fb16,fb16,fb16,fb16,fb16,fb16,fb16,fb16,fb16,fb16,fb16,fb16]
def ba16_74 : Array Bool := #[tb16,tb16,tb16,tb16,tb16,tb16,tb16,tb16,tb16,tb16,tb16,tb16,tb16,tb16,tb16,fb16,fb16,fb16,fb16,fb16,fb16,fb16,fb16,fb16,fb16,fb16,fb16,fb16]
def ba16_75 : Array Bool := #[tb16,tb16,tb16,tb16,tb16,tb16,tb16,tb16,tb16,tb16,tb16,tb16,tb16,tb16,tb16,tb16,fb16,fb16,fb16,fb16,fb16,fb16,fb16,fb16,fb16,fb16,fb16,fb16]
def ba16_76 : Array Bool := #[tb16,tb16,tb16,tb16,tb16,tb16,tb16,tb16,tb16,tb16,tb16,tb16,tb16,tb16,tb16,tb16,tb16,fb16,fb16,fb16,fb16,fb16,fb16,fb16,fb16,fb16,fb16,fb16]
def ba16_77 : Array Bool := #[tb16,tb16,tb16,tb16,tb16,tb16,tb16,tb16,tb16,tb16,tb16,tb16,tb16,tb16,tb16,tb16,tb16,tb16,fb16,fb16,fb16,fb16,fb16,fb16,fb16,fb16,fb16,fb16]
def ba16_78 : Array Bool := #[tb16,tb16,tb16,tb16,tb16,tb16,tb16,tb16,tb16,tb16,tb16,tb16,tb16,tb16,tb16,tb16,tb16,tb16,tb16,fb16,fb16,fb16,fb16,fb16,fb16,fb16,fb16,fb16]
def ba16_79 : Array Bool := #[tb16,tb16,tb16,tb16,tb16,tb16,tb16,tb16,tb16,tb16,tb16,tb16,tb16,tb16,tb16,tb16,tb16,tb16,tb16,tb16,fb16,fb16,fb16,fb16,fb16,fb16,fb16,fb16]
def ba16_80 : Array Bool := #[tb16,tb16,tb16,tb16,tb16,tb16,tb16,tb16,tb16,tb16,tb16,tb16,tb16,tb16,tb16,tb16,tb16,tb16,tb16,tb16,tb16,fb16,fb16,fb16,fb16,fb16,fb16,fb16]
def ba16_81 : Array Bool := #[tb16,tb16,tb16,tb16,tb16,tb16,tb16,tb16,tb16,tb16,tb16,tb16,tb16,tb16,tb16,tb16,tb16,tb16,tb16,tb16,tb16,tb16,fb16,fb16,fb16,fb16,fb16,fb16]
def ba16_82 : Array Bool := #[tb16,tb16,tb16,tb16,tb16,tb16,tb16,tb16,tb16,tb16,tb16,tb16,tb16,tb16,tb16,tb16,tb16,tb16,tb16,tb16,tb16,tb16,tb16,fb16,fb16,fb16,fb16,fb16]
def ba16_83 : Array Bool := #[tb16,tb16,tb16,tb16,tb16,tb16,tb16,tb16,tb16,tb16,tb16,tb16,tb16,tb16,tb16,tb16,tb16,tb16,tb16,tb16,tb16,tb16,tb16,tb16,fb16,fb16,fb16,fb16]
def ba16_84 : Array Bool := #[tb16,tb16,tb16,tb16,tb16,tb16,tb16,tb16,tb16,tb16,tb16,tb16,tb16,tb16,tb16,tb16,tb16,tb16,tb16,tb16,tb16,tb16,tb16,tb16,tb16,fb16,fb16,fb16]
def ba16_85 : Array Bool := #[tb16,tb16,tb16,tb16,tb16,tb16,tb16,tb16,tb16,tb16,tb16,tb16,tb16,tb16,tb16,tb16,tb16,tb16,tb16,tb16,tb16,tb16,tb16,tb16,tb16,tb16,fb16,fb16]
def ba16_86 : Array Bool := #[tb16,tb16,tb16,tb16,tb16,tb16,tb16,tb16,tb16,tb16,tb16,tb16,tb16,tb16,tb16,tb16,tb16,tb16,tb16,tb16,tb16,tb16,tb16,tb16,tb16,tb16,tb16,fb16]
def ba16_87 : Array Bool := #[tb16,tb16,tb16,tb16,tb16,tb16,tb16,tb16,tb16,tb16,tb16,tb16,tb16,tb16,tb16,tb16,tb16,tb16,tb16,tb16,tb16,tb16,tb16,tb16,tb16,tb16,tb16,tb16]
def ba16_88 : Array Bool := #[tb16,tb16,tb16,tb16,tb16,tb16,tb16,tb16,tb16,tb16,tb16,tb16,tb16,tb16,tb16,tb16,fb16,tb16,fb16,fb16,fb16,fb16,fb16,fb16,fb16,fb16,fb16,fb16]
def ba16_89 : Array Bool := #[tb16,tb16,tb16,tb16,tb16,tb16,tb16,tb16,tb16,tb16,tb16,tb16,tb16,tb16,tb16,tb16,fb16,tb16,tb16,fb16,fb16,fb16,fb16,fb16,fb16,fb16,fb16,fb16]
def ba16_90 : Array Bool := #[tb16,tb16,tb16,tb16,tb16,tb16,tb16,tb16,tb16,tb16,tb16,tb16,tb16,tb16,tb16,tb16,fb16,tb16,tb16,tb16,fb16,fb16,fb16,fb16,fb16,fb16,fb16,fb16]
def ba16_91 : Array Bool := #[tb16,tb16,tb16,tb16,tb16,tb16,tb16,tb16,tb16,tb16,tb16,tb16,tb16,tb16,tb16,tb16,fb16,tb16,tb16,tb16,fb16,tb16,fb16,fb16,fb16,fb16,fb16,fb16]
def ba16_92 : Array Bool := #[tb16,tb16,tb16,tb16,tb16,tb16,tb16,tb16,tb16,tb16,tb16,tb16,tb16,tb16,tb16,tb16,fb16,tb16,tb16,tb16,fb16,tb16,fb16,tb16,fb16,fb16,fb16,fb16]
def ba16_93 : Array Bool := #[tb16,tb16,tb16,tb16,tb16,tb16,tb16,tb16,tb16,tb16,tb16,tb16,tb16,tb16,tb16,tb16,tb16,tb16,tb16,tb16,fb16,tb16,fb16,tb16,fb16,fb16,fb16,fb16]
def ba16_94 : Array Bool := #[tb16,tb16,tb16,tb16,tb16,tb16,tb16,tb16,tb16,tb16,tb16,tb16,tb16,tb16,tb16,tb16,tb16,tb16,tb16,tb16,tb16,tb16,fb16,tb16,fb16,fb16,fb16,fb16]

/-! ### laws_FnHops: function 7 -/
mutual
def laws_FnHops.l0 : Nat → Int → List (List Int) → List (List Int) → List Int → List Int → Int → Int → List (S76) → Option (Bool)
 | 0, _, _, _, _, _, _, _, _ => none
 | k + 1, x4, x5, x6, x7, x8, x9, x514000, x514001 => if x9 < x514000 then ((impl_HopsTo.f k x514000 x514001 x4 x9).bind fun t526 => (if 0 ≤ x9 then (if x9 < (x6.length : Int) then (if x9 < (x5.length : Int) then ((laws_same.f k (rd_L2 x6 x9) (rd_L2 x5 x9)).bind fun t531 => (if t531 = true then ((laws_same.f k t526 (rd_L2 x5 x9)).bind fun t533 => (if t533 = true then (if x9 = x4 then (laws_FnHops.j1 k x4 x5 x6 x7 x8 x9 t526 ((decide ((t526.length : Int) > 0)) != false) x514000 x514001) else (if x9 < (x7.length : Int) then (laws_FnHops.j1 k x4 x5 x6 x7 x8 x9 t526 ((decide ((t526.length : Int) > 0)) != (decide ((rd x7 x9) < 1000000))) x514000 x514001) else (none))) else (laws_FnHops.j1 k x4 x5 x6 x7 x8 x9 t526 true x514000 x514001))) else (laws_FnHops.j1 k x4 x5 x6 x7 x8 x9 t526 true x514000 x514001))) else (none)) else (none)) else (none))) else (some true)
def laws_FnHops.j1 : Nat → Int → List (List Int) → List (List Int) → List Int → List Int → Int → List Int → Bool → Int → List (S76) → Option (Bool)
 | 0, _, _, _, _, _, _, _, _, _, _ => none
 | k + 1, x4, x5, x6, x7, x8, x9, x10, x83, x514000, x514001 => if x83 = true then (some false) else (laws_FnHops.l1 k x4 x5 x6 x7 x8 x9 x10 0 x514000 x514001)
def laws_FnHops.l1 : Nat → Int → List (List Int) → List (List Int) → List Int → List Int → Int → List Int → Int → Int → List (S76) → Option (Bool)
 | 0, _, _, _, _, _, _, _, _, _, _ => none
 | k + 1, x4, x5, x6, x7, x8, x9, x10, x11, x514000, x514001 => if x11 < (x10.length : Int) then (if 0 ≤ x11 then ((impl_CostOf.f k x514000 x514001 x4 (rd x10 x11)).bind fun t536 => ((spec_Distances.f k x514000 x514001 (rd x10 x11)).bind fun t538 => (if 0 ≤ x9 then (if x9 < (t538.length : Int) then (if x9 < (x7.length : Int) then (if (wrap64 (t536 + (rd t538 x9))) = (rd x7 x9) then (laws_FnHops.l1 k x4 x5 x6 x7 x8 x9 x10 (wrap64 (x11 + 1)) x514000 x514001) else (some false)) else (none)) else (none)) else (none)))) else (none)) else (if 0 ≤ x9 then (if x9 < (x8.length : Int) then (if ((decide ((rd x8 x9) ≥ 0)) != (decide ((x10.length : Int) > 0))) = true then (some false) else (if (rd x8 x9) ≥ 0 then ((impl_HopsTo.f k x514000 x514001 (rd x8 x9) x9).bind fun t546 => ((laws_within.f k t546 x9).bind fun t549 => (if t549 = true then (laws_FnHops.l0 k x4 x5 x6 x7 x8 (wrap64 (x9 + 1)) x514000 x514001) else (some false)))) else (laws_FnHops.l0 k x4 x5 x6 x7 x8 (wrap64 (x9 + 1)) x514000 x514001))) else (none)) else (none))
end
def laws_FnHops.f (k : Nat) (l0 : List Int) : Option (Bool) := (laws_big.f l0).bind fun t507 => (if t507 = true then (some true) else ((spec_DrawHopTable.f k l0).bind fun bt508 => ((spec_HopTable.f k bt508.1 bt508.2.1 bt508.2.2).bind fun t514 => ((impl_HopTable.f k bt508.1 bt508.2.1 bt508.2.2).bind fun t517 => (if (t517.length : Int) = (t514.length : Int) then (if (t514.length : Int) = 0 then (some true) else ((spec_Distances.f k bt508.1 bt508.2.1 bt508.2.2).bind fun t520 => ((impl_TreeOf.f k bt508.1 bt508.2.1 bt508.2.2).bind fun t523 => (laws_FnHops.l0 k bt508.2.2 t514 t517 t520 t523 0 bt508.1 bt508.2.1)))) else (some false))))))
theorem laws_FnHops.mono_l : ∀ k, (∀ y0 y1 y2 y3 y4 y5 y6 y7, LeO (laws_FnHops.l0 k y0 y1 y2 y3 y4 y5 y6 y7) (laws_FnHops.l0 (k + 1) y0 y1 y2 y3 y4 y5 y6 y7)) ∧ (∀ y0 y1 y2 y3 y4 y5 y6 y7 y8 y9, LeO (laws_FnHops.j1 k y0 y1 y2 y3 y4 y5 y6 y7 y8 y9) (laws_FnHops.j1 (k + 1) y0 y1 y2 y3 y4 y5 y6 y7 y8 y9)) ∧ (∀ y0 y1 y2 y3 y4 y5 y6 y7 y8 y9, LeO (laws_FnHops.l1 k y0 y1 y2 y3 y4 y5 y6 y7 y8 y9) (laws_FnHops.l1 (k + 1) y0 y1 y2 y3 y4 y5 y6 y7 y8 y9))
 | 0 => ⟨fun _ _ _ _ _ _ _ _ r h => by simp [laws_FnHops.l0] at h, fun _ _ _ _ _ _ _ _ _ _ r h => by simp [laws_FnHops.j1] at h, fun _ _ _ _ _ _ _ _ _ _ r h => by simp [laws_FnHops.l1] at h⟩
 | k + 1 => by
  obtain ⟨ih0, ih1, ih2⟩ := laws_FnHops.mono_l k
  refine ⟨?_, ?_, ?_⟩
  ·intro y0 y1 y2 y3 y4 y5 y6 y7
   unfold laws_FnHops.l0
   repeat' first
   | (with_reducible exact ih0 _ _ _ _ _ _ _ _)
   | (with_reducible exact ih1 _ _ _ _ _ _ _ _ _ _)
   | (with_reducible exact ih2 _ _ _ _ _ _ _ _ _ _)
   | (with_reducible exact impl_CostOf.mono _ _ _ _ _)
   | (with_reducible exact impl_HopTable.mono _ _ _ _)
   | (with_reducible exact impl_HopsTo.mono _ _ _ _ _)
   | (with_reducible exact impl_TreeOf.mono _ _ _ _)
   | (with_reducible exact laws_same.mono _ _ _)
   | (with_reducible exact laws_within.mono _ _ _)
   | (with_reducible exact spec_Distances.mono _ _ _ _)
   | (with_reducible exact spec_DrawHopTable.mono _ _)
   | (with_reducible exact spec_HopTable.mono _ _ _ _)
   | (with_reducible exact LeO.refl _)
   | (with_reducible exact LeO.none _)
   | (with_reducible refine LeO.ite ?_ ?_)
   | (with_reducible refine LeO.bind ?_ (fun _ => ?_))
   | exact ih0 _ _ _ _ _ _ _ _
   | exact ih1 _ _ _ _ _ _ _ _ _ _
   | exact ih2 _ _ _ _ _ _ _ _ _ _
   | exact impl_CostOf.mono _ _ _ _ _
   | exact impl_HopTable.mono _ _ _ _
   | exact impl_HopsTo.mono _ _ _ _ _
   | exact impl_TreeOf.mono _ _ _ _
   | exact laws_same.mono _ _ _
   | exact laws_within.mono _ _ _
   | exact spec_Distances.mono _ _ _ _
   | exact spec_DrawHopTable.mono _ _
   | exact spec_HopTable.mono _ _ _ _
   | exact LeO.none _
   | refine LeO.ite ?_ ?_
   | refine LeO.bind ?_ (fun _ => ?_)
  ·intro y0 y1 y2 y3 y4 y5 y6 y7 y8 y9
   unfold laws_FnHops.j1
   repeat' first
   | (with_reducible exact ih0 _ _ _ _ _ _ _ _)
   | (with_reducible exact ih1 _ _ _ _ _ _ _ _ _ _)
   | (with_reducible exact ih2 _ _ _ _ _ _ _ _ _ _)
   | (with_reducible exact impl_CostOf.mono _ _ _ _ _)
   | (with_reducible exact impl_HopTable.mono _ _ _ _)
   | (with_reducible exact impl_HopsTo.mono _ _ _ _ _)
   | (with_reducible exact impl_TreeOf.mono _ _ _ _)
   | (with_reducible exact laws_same.mono _ _ _)
   | (with_reducible exact laws_within.mono _ _ _)
   | (with_reducible exact spec_Distances.mono _ _ _ _)
   | (with_reducible exact spec_DrawHopTable.mono _ _)
   | (with_reducible exact spec_HopTable.mono _ _ _ _)
   | (with_reducible exact LeO.refl _)
   | (with_reducible exact LeO.none _)
   | (with_reducible refine LeO.ite ?_ ?_)
   | (with_reducible refine LeO.bind ?_ (fun _ => ?_))
   | exact ih0 _ _ _ _ _ _ _ _
   | exact ih1 _ _ _ _ _ _ _ _ _ _
   | exact ih2 _ _ _ _ _ _ _ _ _ _
   | exact impl_CostOf.mono _ _ _ _ _
   | exact impl_HopTable.mono _ _ _ _
   | exact impl_HopsTo.mono _ _ _ _ _
   | exact impl_TreeOf.mono _ _ _ _
   | exact laws_same.mono _ _ _
   | exact laws_within.mono _ _ _
   | exact spec_Distances.mono _ _ _ _
   | exact spec_DrawHopTable.mono _ _
   | exact spec_HopTable.mono _ _ _ _
   | exact LeO.none _
   | refine LeO.ite ?_ ?_
   | refine LeO.bind ?_ (fun _ => ?_)
  ·intro y0 y1 y2 y3 y4 y5 y6 y7 y8 y9
   unfold laws_FnHops.l1
   repeat' first
   | (with_reducible exact ih0 _ _ _ _ _ _ _ _)
   | (with_reducible exact ih1 _ _ _ _ _ _ _ _ _ _)
   | (with_reducible exact ih2 _ _ _ _ _ _ _ _ _ _)
   | (with_reducible exact impl_CostOf.mono _ _ _ _ _)
   | (with_reducible exact impl_HopTable.mono _ _ _ _)
   | (with_reducible exact impl_HopsTo.mono _ _ _ _ _)
   | (with_reducible exact impl_TreeOf.mono _ _ _ _)
   | (with_reducible exact laws_same.mono _ _ _)
   | (with_reducible exact laws_within.mono _ _ _)
   | (with_reducible exact spec_Distances.mono _ _ _ _)
   | (with_reducible exact spec_DrawHopTable.mono _ _)
   | (with_reducible exact spec_HopTable.mono _ _ _ _)
   | (with_reducible exact LeO.refl _)
   | (with_reducible exact LeO.none _)
   | (with_reducible refine LeO.ite ?_ ?_)
   | (with_reducible refine LeO.bind ?_ (fun _ => ?_))
   | exact ih0 _ _ _ _ _ _ _ _
   | exact ih1 _ _ _ _ _ _ _ _ _ _
   | exact ih2 _ _ _ _ _ _ _ _ _ _
   | exact impl_CostOf.mono _ _ _ _ _
   | exact impl_HopTable.mono _ _ _ _
   | exact impl_HopsTo.mono _ _ _ _ _
   | exact impl_TreeOf.mono _ _ _ _
   | exact laws_same.mono _ _ _
   | exact laws_within.mono _ _ _
   | exact spec_Distances.mono _ _ _ _
   | exact spec_DrawHopTable.mono _ _
   | exact spec_HopTable.mono _ _ _ _
   | exact LeO.none _
   | refine LeO.ite ?_ ?_
   | refine LeO.bind ?_ (fun _ => ?_)
theorem laws_FnHops.mono : ∀ a0 k, LeO (laws_FnHops.f k a0) (laws_FnHops.f (k + 1) a0) := by
 intro a0 k
 obtain ⟨ih0, ih1, ih2⟩ := laws_FnHops.mono_l k
 unfold laws_FnHops.f
 repeat' first
   | (with_reducible exact ih0 _ _ _ _ _ _ _ _)
   | (with_reducible exact ih1 _ _ _ _ _ _ _ _ _ _)
   | (with_reducible exact ih2 _ _ _ _ _ _ _ _ _ _)
   | (with_reducible exact impl_CostOf.mono _ _ _ _ _)
   | (with_reducible exact impl_HopTable.mono _ _ _ _)
   | (with_reducible exact impl_HopsTo.mono _ _ _ _ _)
   | (with_reducible exact impl_TreeOf.mono _ _ _ _)
   | (with_reducible exact laws_same.mono _ _ _)
   | (with_reducible exact laws_within.mono _ _ _)
   | (with_reducible exact spec_Distances.mono _ _ _ _)
   | (with_reducible exact spec_DrawHopTable.mono _ _)
   | (with_reducible exact spec_HopTable.mono _ _ _ _)
   | (with_reducible exact LeO.refl _)
   | (with_reducible exact LeO.none _)
   | (with_reducible refine LeO.ite ?_ ?_)
   | (with_reducible refine LeO.bind ?_ (fun _ => ?_))
   | exact ih0 _ _ _ _ _ _ _ _
   | exact ih1 _ _ _ _ _ _ _ _ _ _
   | exact ih2 _ _ _ _ _ _ _ _ _ _
   | exact impl_CostOf.mono _ _ _ _ _
   | exact impl_HopTable.mono _ _ _ _
   | exact impl_HopsTo.mono _ _ _ _ _
   | exact impl_TreeOf.mono _ _ _ _
   | exact laws_same.mono _ _ _
   | exact laws_within.mono _ _ _
   | exact spec_Distances.mono _ _ _ _
   | exact spec_DrawHopTable.mono _ _
   | exact spec_HopTable.mono _ _ _ _
   | exact LeO.none _
   | refine LeO.ite ?_ ?_
   | refine LeO.bind ?_ (fun _ => ?_)
def laws_FnHops.T16 : Bool × List (List Nat × List Nat) := (true, [([], []), ([], []), ([0, 1], [0, 1]), ([2], [2]), ([], []), ([], []), ([4, 5], [4, 5]), ([6], [6]), ([3, 7], [3, 7]), ([8], [8]), ([9, 8], [9]), ([10], [10]), ([10], [10]), ([10], [10]), ([12, 13, 10], [10, 12, 13]), ([14, 10], [10, 14]), ([11, 15, 10, 10], [10, 11, 15]), ([16, 10], [10, 16]), ([10, 17], [10, 17]), ([18, 16], [18]), ([19], [19]), ([20, 19], [19, 20]), ([21, 19], [19, 21]), ([19], [19]), ([19], [19]), ([23, 24, 19], [19, 23, 24]), ([25, 19, 19], [19, 25]), ([26], [26]), ([26], [26]), ([27, 28, 26], [26, 27, 28]), ([29, 26], [26, 29]), ([30, 26], [26, 30]), ([26, 31, 19], [19, 26, 31]), ([22, 32, 19], [19, 22, 32]), ([19, 33], [19, 33])])
def laws_FnHops.B16 : List Nat := [0, 0, 3, 7, 0, 0, 48, 112, 255, 511, 1023, 2047, 2047, 2047, 14335, 30719, 65535, 131071, 262143, 524287, 1048575, 2097151, 4194303, 1048575, 1048575, 26214399, 59768831, 126877695, 126877695, 529530879, 1066401791, 2140143615, 4287627263, 8589934591, 17179869183]
theorem laws_FnHops.tab16 : rtab .any (opsOf Try.f7 16) = laws_FnHops.T16 := by kernel_rfl
theorem laws_FnHops.bits16 : waitsOk laws_FnHops.T16.2 laws_FnHops.B16 = true := by kernel_rfl
def laws_FnHops.T21 : Bool × List (List Nat × List Nat) := (true, [([], []), ([], []), ([], []), ([], []), ([2, 3], [2, 3]), ([4], [4]), ([0, 1, 5], [0, 1, 5]), ([], []), ([], []), ([], []), ([8, 9], [8, 9]), ([10], [10]), ([7, 11, 6], [7, 11]), ([], []), ([12, 13], [12, 13]), ([14], [14]), ([6, 15], [6, 15]), ([], []), ([], []), ([17, 18], [17, 18]), ([19], [19]), ([16, 20], [16, 20])])
def laws_FnHops.B21 : List Nat := [0, 0, 0, 0, 12, 28, 63, 0, 0, 0, 768, 1792, 4095, 0, 16383, 32767, 65535, 0, 0, 393216, 917504, 2097151]
theorem laws_FnHops.tab21 : rtab .any (opsOf Try.f7 21) = laws_FnHops.T21 := by kernel_rfl
theorem laws_FnHops.bits21 : waitsOk laws_FnHops.T21.2 laws_FnHops.B21 = true := by kernel_rfl
def laws_FnHops.T23 : Bool × List (List Nat × List Nat) := (true, [([], []), ([], []), ([0, 1], [0, 1]), ([2], [2]), ([3], [3]), ([], []), ([5], [5]), ([6], [6]), ([4, 7], [4, 7]), ([8], [8]), ([9], [9]), ([9], [9]), ([10, 11, 9], [9, 10, 11]), ([12, 9], [9, 12]), ([13, 9], [9, 13]), ([14, 9, 9], [9, 14]), ([15], [15]), ([15], [15]), ([15], [15]), ([17, 18, 15], [15, 17, 18]), ([19, 15], [15, 19]), ([15], [15]), ([16, 20, 21, 15, 15], [15, 16, 20, 21]), ([15], [15]), ([22, 23, 22, 15], [15, 22, 23]), ([24, 15], [15, 24]), ([15, 25, 9], [9, 15, 25]), ([9, 26], [9, 26])])
def laws_FnHops.B23 : List Nat := [0, 0, 3, 7, 15, 0, 32, 96, 255, 511, 1023, 1023, 4095, 8191, 16383, 32767, 65535, 65535, 65535, 458751, 983039, 65535, 4194303, 65535, 16777215, 33554431, 67108863, 134217727]
theorem laws_FnHops.tab23 : rtab .any (opsOf Try.f7 23) = laws_FnHops.T23 := by kernel_rfl
theorem laws_FnHops.bits23 : waitsOk laws_FnHops.T23.2 laws_FnHops.B23 = true := by kernel_rfl
set_option maxHeartbeats 8000000 in
set_option maxRecDepth 100000 in
theorem laws_FnHops.calls (k : Nat) (A0 : Option Addr) (c0 : Nat) (l0 : List Int) (r : Bool) (w : World) (hr0 : Kd.C (Kd.int .u8) w A0 l0.length l0) (hc0 : l0.length ≤ c0) (h : laws_FnHops.f k l0 = some r) :
  Calls Try.prog 7 #[.slice A0 l0.length c0] w fun e w' => e = .returned (.bool r) ∧ Below w.heap.size w w' := by
 have hu30 := Try.underlying30
 have HR0 := Aside0.mk hr0
 have HC0 := Aside0.mk hc0
 clear hr0 hc0
 have HB := Aside0.mk (Below.refl w.heap.size w)
 have H : ((laws_big.f l0).bind fun t507 => (if t507 = true then (some true) else ((spec_DrawHopTable.f k l0).bind fun bt508 => ((spec_HopTable.f k bt508.1 bt508.2.1 bt508.2.2).bind fun t514 => ((impl_HopTable.f k bt508.1 bt508.2.1 bt508.2.2).bind fun t517 => (if (t517.length : Int) = (t514.length : Int) then (if (t514.length : Int) = 0 then (some true) else ((spec_Distances.f k bt508.1 bt508.2.1 bt508.2.2).bind fun t520 => ((impl_TreeOf.f k bt508.1 bt508.2.1 bt508.2.2).bind fun t523 => (laws_FnHops.l0 k bt508.2.2 t514 t517 t520 t523 0 bt508.1 bt508.2.1)))) else (some false))))))) = some r := h
 clear h
 replace H := Option.bind_eq_some_iff.mp H
 obtain ⟨t507, A20, H⟩ := H
 have A2 := Aside0.mk A20
 clear A20
 by_cases c3 : t507 = true
 ·subst c3
  rw [if_pos rfl] at H
  obtain rfl := Option.some.inj H
  go_enter Try.func7, Try.ntmps7
  go_wp2_with ((with_reducible refine gate_callee (f := 23) rfl ?_); refine gl_ (some 13) Try.func23 #[.slice A0 l0.length c0] ?_; (with_reducible refine (laws_big.calls _ _ l0 true _ ?side1 ?side2 A2.out).mono ?_); (case side1 => repeat (first | exact HR0.out | (with_reducible refine Kd.C_alloc ?_ _) | (with_reducible refine Kd.C_drewN ?_ _) | (with_reducible refine Kd.C_drew ?_))); (case side2 => exact HC0.out); rintro e w' ⟨rfl, ⟨nd, rfl⟩⟩; refine ⟨_, rfl, ?_⟩)
  go_ret
  exact ⟨by first | rfl | (simp [errW_none, errW_some] <;> rfl) | (simp [*, errW_none, errW_some] <;> rfl), bw115_⟩
 replace c3 := Bool.eq_false_iff.mpr c3
 subst c3
 rw [if_neg (show ¬ (false = true) by decide)] at H
 replace H := Option.bind_eq_some_iff.mp H
 obtain ⟨⟨t508, t509, t512⟩, A40, H⟩ := H
 have A4 := Aside0.mk A40
 clear A40
 replace H := Option.bind_eq_some_iff.mp H
 obtain ⟨t514, A50, H⟩ := H
 have A5 := Aside0.mk A50
 clear A50
 replace H := Option.bind_eq_some_iff.mp H
 obtain ⟨t517, A60, H⟩ := H
 have A6 := Aside0.mk A60
 clear A60
 by_cases c7 : (t517.length : Int) = (t514.length : Int)
 rotate_left
 ·rw [if_neg c7] at H
  have c7b0 : ((t517.length : Int) == (t514.length : Int)) = false := beq_eq_false_iff_ne.mpr c7
  have c7b1 : ((t517.length : Int) != (t514.length : Int)) = true := bne_iff_ne.mpr c7
  have c7b2 : (t517.length == t514.length) = false := by first | simpa using c7 | (simp at c7 ⊢; omega)
  obtain rfl := Option.some.inj H
  go_enter Try.func7, Try.ntmps7
  go_wp2_with (first | ((with_reducible refine gate_callee (f := 23) rfl ?_); refine gl_ (some 13) Try.func23 #[.slice A0 l0.length c0] ?_; (with_reducible refine (laws_big.calls _ _ l0 false _ ?side1 ?side2 A2.out).mono ?_); (case side1 => repeat (first | exact HR0.out | (with_reducible refine Kd.C_alloc ?_ _) | (with_reducible refine Kd.C_drewN ?_ _) | (with_reducible refine Kd.C_drew ?_))); (case side2 => exact HC0.out); rintro e w' ⟨rfl, ⟨nd, rfl⟩⟩; refine ⟨_, rfl, ?_⟩) | ((with_reducible refine gate_callee (f := 30) rfl ?_); refine gl_ (some 16) Try.func30 #[.slice A0 l0.length c0] ?_; (with_reducible refine (spec_DrawHopTable.calls k _ _ l0 t508 t509 t512 _ ?side1 ?side2 A4.out).mono ?_); (case side1 => repeat (first | exact HR0.out | (with_reducible refine Kd.C_alloc ?_ _) | (with_reducible refine Kd.C_drewN ?_ _) | (with_reducible refine Kd.C_drew ?_))); (case side2 => exact HC0.out); rintro e w100 ⟨v510, rfl, ho0, hb⟩; refine ⟨_, rfl, ?_⟩; have HO511 := Aside0.mk (Kd.R_lower ho0 (bz_ HB)); replace HB := at_ HB hb; (try clear hb); (try clear hb2); (try clear hk); (try clear hi); (try clear ho0)) | ((with_reducible refine gate_dst (N := 3) rfl ?_); refine box_event ?hg (N := 3) ?hd (cs := #[.int .i64 0, .slice none 0 0]) (t := 30) ?hr ?_; (case hd => rfl); (case hg => rfl); (case hr => first | (go_simp; done) | (go_simp; rfl)); intro gb513 hg w101 hbox hb; have BK513 := Aside0.mk hbox; have GW513 := ge_ HB hg; have GE513 := ge_ HB hg; replace HO511 := rb_ HO511 hb; replace HB := at_ HB hb; clear hb hbox hg; have hcz102_0 := cz_ BK513 0 (.int .i64 0); have hcz102_1 := cz_ BK513 1 (.slice none 0 0); have hfz102_0 := blk_frozen BK513.out 0; have hfz102_1 := blk_frozen BK513.out 1; obtain ⟨Ao103, co103, eo103⟩ := Kd.R_slice HO511.out; subst eo103) | ((with_reducible refine gate_callee (f := 31) rfl ?_); refine gl_ (some 21) Try.func31 #[.agg #[.int .i64 t508, .slice Ao103 t509.length co103], .int .i64 t512] ?_; (with_reducible refine (spec_HopTable.calls k t508 _ _ t509 t512 t514 _ ?side1 ?side2 A5.out).mono ?_); (case side1 => refine (Kd.R_reads' (e := 76) (base := w.heap.size) (ok := fun k_ => True) (n := t509.length) (c := co103) ?_).2.2; exact (hs_ HO511 BK513)); (case side2 => exact (Kd.R_reads' HO511.out).2.1); rintro e w104 ⟨v515, rfl, ho0, hb⟩; refine ⟨_, rfl, ?_⟩; have HO516 := Aside0.mk (Kd.S_lower ho0 (bz_ HB)); replace HO511 := rs_ HO511 BK513 hb; replace BK513 := Aside0.mk (blk_below (g := gb513) (o := .cells #[.int .i64 t508, .slice Ao103 t509.length co103] 30 (0, 0)) (by (with_reducible repeat (first | refine blk_drewN ?_ _ | refine blk_drew ?_ | refine blk_alloc ?_ _)); refine blk_put (cs := #[.int .i64 t508, .slice none 0 0]) ?_ 1 _ rfl; (with_reducible repeat (first | refine blk_drewN ?_ _ | refine blk_drew ?_ | refine blk_alloc ?_ _)); refine blk_put (cs := #[.int .i64 0, .slice none 0 0]) ?_ 0 _ rfl; (with_reducible repeat (first | refine blk_drewN ?_ _ | refine blk_drew ?_ | refine blk_alloc ?_ _)); exact BK513.out) hb); replace HB := at_ HB hb; (try clear hb); (try clear hb2); (try clear hk); (try clear hi); (try clear ho0); have hcz105_0 := cz_ BK513 0 (.int .i64 t508); have hcz105_1 := cz_ BK513 1 (.slice Ao103 t509.length co103); have hfz105_0 := blk_frozen BK513.out 0; have hfz105_1 := blk_frozen BK513.out 1) | ((with_reducible refine gate_callee (f := 32) rfl ?_); refine gl_ (some 24) Try.func32 #[.agg #[.int .i64 t508, .slice Ao103 t509.length co103], .int .i64 t512] ?_; (with_reducible refine (impl_HopTable.calls k t508 _ _ t509 t512 t517 _ ?side1 ?side2 A6.out).mono ?_); (case side1 => exact rc_ HO511); (case side2 => exact (Kd.R_reads' HO511.out).2.1); rintro e w106 ⟨v518, rfl, ho0, hb⟩; refine ⟨_, rfl, ?_⟩; have HO519 := Aside0.mk (Kd.S_lower (Kd.S_new' ho0 (Kd.S_lt (by (with_reducible repeat (first | apply Kd.S_alloc | apply Kd.S_drewN | apply Kd.S_drew)); exact HO516.out))) (bz_ HB)); replace HO511 := rb_ HO511 hb; replace HO516 := Aside0.mk (Kd.S_elder' (by (with_reducible repeat (first | apply Kd.S_alloc | apply Kd.S_drewN | apply Kd.S_drew)); exact HO516.out) (Kd.S_base ho0) hb); replace BK513 := ab_ BK513 hb; replace HB := at_ HB hb; (try clear hb); (try clear hb2); (try clear hk); (try clear hi); (try clear ho0); obtain ⟨Ao107, co107, eo107⟩ := Kd.S_slice HO519.out; subst eo107; obtain ⟨Ao108, co108, eo108⟩ := Kd.S_slice HO516.out; subst eo108))
  go_ret
  exact ⟨by first | rfl | (simp [errW_none, errW_some] <;> rfl) | (simp [*, errW_none, errW_some] <;> rfl), bw115_⟩
 rw [if_pos c7] at H
 have c7b0 : ((t517.length : Int) == (t514.length : Int)) = true := beq_iff_eq.mpr c7
 have c7b1 : ((t517.length : Int) != (t514.length : Int)) = false := bne_eq_false_iff_eq.mpr c7
 have c7b2 : (t517.length == t514.length) = true := by first | simpa using c7 | (simp at c7 ⊢; omega)
 clear c7
 by_cases c8 : (t514.length : Int) = 0
 ·rw [if_pos c8] at H
  have c8b0 : ((t514.length : Int) == 0) = true := beq_iff_eq.mpr c8
  have c8b1 : ((t514.length : Int) != 0) = false := bne_eq_false_iff_eq.mpr c8
  clear c8
  obtain rfl := Option.some.inj H
  go_enter Try.func7, Try.ntmps7
  go_wp2_with (first | ((with_reducible refine gate_callee (f := 23) rfl ?_); refine gl_ (some 13) Try.func23 #[.slice A0 l0.length c0] ?_; (with_reducible refine (laws_big.calls _ _ l0 false _ ?side1 ?side2 A2.out).mono ?_); (case side1 => repeat (first | exact HR0.out | (with_reducible refine Kd.C_alloc ?_ _) | (with_reducible refine Kd.C_drewN ?_ _) | (with_reducible refine Kd.C_drew ?_))); (case side2 => exact HC0.out); rintro e w' ⟨rfl, ⟨nd, rfl⟩⟩; refine ⟨_, rfl, ?_⟩) | ((with_reducible refine gate_callee (f := 30) rfl ?_); refine gl_ (some 16) Try.func30 #[.slice A0 l0.length c0] ?_; (with_reducible refine (spec_DrawHopTable.calls k _ _ l0 t508 t509 t512 _ ?side1 ?side2 A4.out).mono ?_); (case side1 => repeat (first | exact HR0.out | (with_reducible refine Kd.C_alloc ?_ _) | (with_reducible refine Kd.C_drewN ?_ _) | (with_reducible refine Kd.C_drew ?_))); (case side2 => exact HC0.out); rintro e w9 ⟨v510, rfl, ho0, hb⟩; refine ⟨_, rfl, ?_⟩; have HO511 := Aside0.mk (Kd.R_lower ho0 (bz_ HB)); replace HB := at_ HB hb; (try clear hb); (try clear hb2); (try clear hk); (try clear hi); (try clear ho0)) | ((with_reducible refine gate_dst (N := 3) rfl ?_); refine box_event ?hg (N := 3) ?hd (cs := #[.int .i64 0, .slice none 0 0]) (t := 30) ?hr ?_; (case hd => rfl); (case hg => rfl); (case hr => first | (go_simp; done) | (go_simp; rfl)); intro gb513 hg w10 hbox hb; have BK513 := Aside0.mk hbox; have GW513 := ge_ HB hg; have GE513 := ge_ HB hg; replace HO511 := rb_ HO511 hb; replace HB := at_ HB hb; clear hb hbox hg; have hcz11_0 := cz_ BK513 0 (.int .i64 0); have hcz11_1 := cz_ BK513 1 (.slice none 0 0); have hfz11_0 := blk_frozen BK513.out 0; have hfz11_1 := blk_frozen BK513.out 1; obtain ⟨Ao12, co12, eo12⟩ := Kd.R_slice HO511.out; subst eo12) | ((with_reducible refine gate_callee (f := 31) rfl ?_); refine gl_ (some 21) Try.func31 #[.agg #[.int .i64 t508, .slice Ao12 t509.length co12], .int .i64 t512] ?_; (with_reducible refine (spec_HopTable.calls k t508 _ _ t509 t512 t514 _ ?side1 ?side2 A5.out).mono ?_); (case side1 => refine (Kd.R_reads' (e := 76) (base := w.heap.size) (ok := fun k_ => True) (n := t509.length) (c := co12) ?_).2.2; exact (hs_ HO511 BK513)); (case side2 => exact (Kd.R_reads' HO511.out).2.1); rintro e w13 ⟨v515, rfl, ho0, hb⟩; refine ⟨_, rfl, ?_⟩; have HO516 := Aside0.mk (Kd.S_lower ho0 (bz_ HB)); replace HO511 := rs_ HO511 BK513 hb; replace BK513 := Aside0.mk (blk_below (g := gb513) (o := .cells #[.int .i64 t508, .slice Ao12 t509.length co12] 30 (0, 0)) (by (with_reducible repeat (first | refine blk_drewN ?_ _ | refine blk_drew ?_ | refine blk_alloc ?_ _)); refine blk_put (cs := #[.int .i64 t508, .slice none 0 0]) ?_ 1 _ rfl; (with_reducible repeat (first | refine blk_drewN ?_ _ | refine blk_drew ?_ | refine blk_alloc ?_ _)); refine blk_put (cs := #[.int .i64 0, .slice none 0 0]) ?_ 0 _ rfl; (with_reducible repeat (first | refine blk_drewN ?_ _ | refine blk_drew ?_ | refine blk_alloc ?_ _)); exact BK513.out) hb); replace HB := at_ HB hb; (try clear hb); (try clear hb2); (try clear hk); (try clear hi); (try clear ho0); have hcz14_0 := cz_ BK513 0 (.int .i64 t508); have hcz14_1 := cz_ BK513 1 (.slice Ao12 t509.length co12); have hfz14_0 := blk_frozen BK513.out 0; have hfz14_1 := blk_frozen BK513.out 1) | ((with_reducible refine gate_callee (f := 32) rfl ?_); refine gl_ (some 24) Try.func32 #[.agg #[.int .i64 t508, .slice Ao12 t509.length co12], .int .i64 t512] ?_; (with_reducible refine (impl_HopTable.calls k t508 _ _ t509 t512 t517 _ ?side1 ?side2 A6.out).mono ?_); (case side1 => exact rc_ HO511); (case side2 => exact (Kd.R_reads' HO511.out).2.1); rintro e w15 ⟨v518, rfl, ho0, hb⟩; refine ⟨_, rfl, ?_⟩; have HO519 := Aside0.mk (Kd.S_lower (Kd.S_new' ho0 (Kd.S_lt (by (with_reducible repeat (first | apply Kd.S_alloc | apply Kd.S_drewN | apply Kd.S_drew)); exact HO516.out))) (bz_ HB)); replace HO511 := rb_ HO511 hb; replace HO516 := Aside0.mk (Kd.S_elder' (by (with_reducible repeat (first | apply Kd.S_alloc | apply Kd.S_drewN | apply Kd.S_drew)); exact HO516.out) (Kd.S_base ho0) hb); replace BK513 := ab_ BK513 hb; replace HB := at_ HB hb; (try clear hb); (try clear hb2); (try clear hk); (try clear hi); (try clear ho0); obtain ⟨Ao16, co16, eo16⟩ := Kd.S_slice HO519.out; subst eo16; obtain ⟨Ao17, co17, eo17⟩ := Kd.S_slice HO516.out; subst eo17))
  go_ret
  exact ⟨by first | rfl | (simp [errW_none, errW_some] <;> rfl) | (simp [*, errW_none, errW_some] <;> rfl), bw115_⟩
 rw [if_neg c8] at H
 have c8b0 : ((t514.length : Int) == 0) = false := beq_eq_false_iff_ne.mpr c8
 have c8b1 : ((t514.length : Int) != 0) = true := bne_iff_ne.mpr c8
 have c8b2 : ¬ (t514 = []) := fun h_ => c8 (by rw [h_]; rfl)
 replace H := Option.bind_eq_some_iff.mp H
 obtain ⟨t520, A180, H⟩ := H
 have A18 := Aside0.mk A180
 clear A180
 replace H := Option.bind_eq_some_iff.mp H
 obtain ⟨t523, A190, H⟩ := H
 have A19 := Aside0.mk A190
 clear A190
 have H' := Aside0.mk H
 clear H
 go_enter Try.func7, Try.ntmps7
 go_wp2_with (first | ((with_reducible refine gate_callee (f := 23) rfl ?_); refine gl_ (some 13) Try.func23 #[.slice A0 l0.length c0] ?_; (with_reducible refine (laws_big.calls _ _ l0 false _ ?side1 ?side2 A2.out).mono ?_); (case side1 => repeat (first | exact HR0.out | (with_reducible refine Kd.C_alloc ?_ _) | (with_reducible refine Kd.C_drewN ?_ _) | (with_reducible refine Kd.C_drew ?_))); (case side2 => exact HC0.out); rintro e w' ⟨rfl, ⟨nd, rfl⟩⟩; refine ⟨_, rfl, ?_⟩) | ((with_reducible refine gate_callee (f := 30) rfl ?_); refine gl_ (some 16) Try.func30 #[.slice A0 l0.length c0] ?_; (with_reducible refine (spec_DrawHopTable.calls k _ _ l0 t508 t509 t512 _ ?side1 ?side2 A4.out).mono ?_); (case side1 => repeat (first | exact HR0.out | (with_reducible refine Kd.C_alloc ?_ _) | (with_reducible refine Kd.C_drewN ?_ _) | (with_reducible refine Kd.C_drew ?_))); (case side2 => exact HC0.out); rintro e w20 ⟨v510, rfl, ho0, hb⟩; refine ⟨_, rfl, ?_⟩; have HO511 := Aside0.mk (Kd.R_lower ho0 (bz_ HB)); replace HB := at_ HB hb; (try clear hb); (try clear hb2); (try clear hk); (try clear hi); (try clear ho0)) | ((with_reducible refine gate_dst (N := 3) rfl ?_); refine box_event ?hg (N := 3) ?hd (cs := #[.int .i64 0, .slice none 0 0]) (t := 30) ?hr ?_; (case hd => rfl); (case hg => rfl); (case hr => first | (go_simp; done) | (go_simp; rfl)); intro gb513 hg w21 hbox hb; have BK513 := Aside0.mk hbox; have GW513 := ge_ HB hg; have GE513 := ge_ HB hg; replace HO511 := rb_ HO511 hb; replace HB := at_ HB hb; clear hb hbox hg; have hcz22_0 := cz_ BK513 0 (.int .i64 0); have hcz22_1 := cz_ BK513 1 (.slice none 0 0); have hfz22_0 := blk_frozen BK513.out 0; have hfz22_1 := blk_frozen BK513.out 1; obtain ⟨Ao23, co23, eo23⟩ := Kd.R_slice HO511.out; subst eo23) | ((with_reducible refine gate_callee (f := 31) rfl ?_); refine gl_ (some 21) Try.func31 #[.agg #[.int .i64 t508, .slice Ao23 t509.length co23], .int .i64 t512] ?_; (with_reducible refine (spec_HopTable.calls k t508 _ _ t509 t512 t514 _ ?side1 ?side2 A5.out).mono ?_); (case side1 => refine (Kd.R_reads' (e := 76) (base := w.heap.size) (ok := fun k_ => True) (n := t509.length) (c := co23) ?_).2.2; exact (hs_ HO511 BK513)); (case side2 => exact (Kd.R_reads' HO511.out).2.1); rintro e w24 ⟨v515, rfl, ho0, hb⟩; refine ⟨_, rfl, ?_⟩; have HO516 := Aside0.mk (Kd.S_lower ho0 (bz_ HB)); replace HO511 := rs_ HO511 BK513 hb; replace BK513 := Aside0.mk (blk_below (g := gb513) (o := .cells #[.int .i64 t508, .slice Ao23 t509.length co23] 30 (0, 0)) (by (with_reducible repeat (first | refine blk_drewN ?_ _ | refine blk_drew ?_ | refine blk_alloc ?_ _)); refine blk_put (cs := #[.int .i64 t508, .slice none 0 0]) ?_ 1 _ rfl; (with_reducible repeat (first | refine blk_drewN ?_ _ | refine blk_drew ?_ | refine blk_alloc ?_ _)); refine blk_put (cs := #[.int .i64 0, .slice none 0 0]) ?_ 0 _ rfl; (with_reducible repeat (first | refine blk_drewN ?_ _ | refine blk_drew ?_ | refine blk_alloc ?_ _)); exact BK513.out) hb); replace HB := at_ HB hb; (try clear hb); (try clear hb2); (try clear hk); (try clear hi); (try clear ho0); have hcz25_0 := cz_ BK513 0 (.int .i64 t508); have hcz25_1 := cz_ BK513 1 (.slice Ao23 t509.length co23); have hfz25_0 := blk_frozen BK513.out 0; have hfz25_1 := blk_frozen BK513.out 1) | ((with_reducible refine gate_callee (f := 32) rfl ?_); refine gl_ (some 24) Try.func32 #[.agg #[.int .i64 t508, .slice Ao23 t509.length co23], .int .i64 t512] ?_; (with_reducible refine (impl_HopTable.calls k t508 _ _ t509 t512 t517 _ ?side1 ?side2 A6.out).mono ?_); (case side1 => exact rc_ HO511); (case side2 => exact (Kd.R_reads' HO511.out).2.1); rintro e w26 ⟨v518, rfl, ho0, hb⟩; refine ⟨_, rfl, ?_⟩; have HO519 := Aside0.mk (Kd.S_lower (Kd.S_new' ho0 (Kd.S_lt (by (with_reducible repeat (first | apply Kd.S_alloc | apply Kd.S_drewN | apply Kd.S_drew)); exact HO516.out))) (bz_ HB)); replace HO511 := rb_ HO511 hb; replace HO516 := Aside0.mk (Kd.S_elder' (by (with_reducible repeat (first | apply Kd.S_alloc | apply Kd.S_drewN | apply Kd.S_drew)); exact HO516.out) (Kd.S_base ho0) hb); replace BK513 := ab_ BK513 hb; replace HB := at_ HB hb; (try clear hb); (try clear hb2); (try clear hk); (try clear hi); (try clear ho0); obtain ⟨Ao27, co27, eo27⟩ := Kd.S_slice HO519.out; subst eo27; obtain ⟨Ao28, co28, eo28⟩ := Kd.S_slice HO516.out; subst eo28; have hcz29_0 := cz_ BK513 0 (.int .i64 t508); have hcz29_1 := cz_ BK513 1 (.slice Ao23 t509.length co23); have hfz29_0 := blk_frozen BK513.out 0; have hfz29_1 := blk_frozen BK513.out 1) | ((with_reducible refine gate_callee (f := 33) rfl ?_); refine gl_ (some 35) Try.func33 #[.agg #[.int .i64 t508, .slice Ao23 t509.length co23], .int .i64 t512] ?_; (with_reducible refine (spec_Distances.calls k t508 _ _ t509 t512 t520 _ ?side1 ?side2 A18.out).mono ?_); (case side1 => exact rc_ HO511); (case side2 => exact (Kd.R_reads' HO511.out).2.1); rintro e w30 ⟨v521, rfl, ho0, hb⟩; refine ⟨_, rfl, ?_⟩; have HO522 := Aside0.mk (Kd.R_lower ho0 (bz_ HB)); replace HO511 := rb_ HO511 hb; replace HO516 := Aside0.mk (Kd.S_elder' (by (with_reducible repeat (first | apply Kd.S_alloc | apply Kd.S_drewN | apply Kd.S_drew)); exact HO516.out) (Kd.R_base ho0) hb); replace HO519 := Aside0.mk (Kd.S_elder' (by (with_reducible repeat (first | apply Kd.S_alloc | apply Kd.S_drewN | apply Kd.S_drew)); exact HO519.out) (Kd.R_base ho0) hb); replace BK513 := ab_ BK513 hb; replace HB := at_ HB hb; (try clear hb); (try clear hb2); (try clear hk); (try clear hi); (try clear ho0); have hcz31_0 := cz_ BK513 0 (.int .i64 t508); have hcz31_1 := cz_ BK513 1 (.slice Ao23 t509.length co23); have hfz31_0 := blk_frozen BK513.out 0; have hfz31_1 := blk_frozen BK513.out 1) | ((with_reducible refine gate_callee (f := 13) rfl ?_); refine gl_ (some 38) Try.func13 #[.agg #[.int .i64 t508, .slice Ao23 t509.length co23], .int .i64 t512] ?_; (with_reducible refine (impl_TreeOf.calls k t508 _ _ t509 t512 t523 _ ?side1 ?side2 A19.out).mono ?_); (case side1 => exact rc_ HO511); (case side2 => exact (Kd.R_reads' HO511.out).2.1); rintro e w32 ⟨v524, rfl, ho0, hb⟩; refine ⟨_, rfl, ?_⟩; have HO525 := Aside0.mk (Kd.R_lower (Kd.R_new' ho0 (Kd.R_lt (hd_ HO522))) (bz_ HB)); replace HO511 := rb_ HO511 hb; replace HO516 := Aside0.mk (Kd.S_elder' (by (with_reducible repeat (first | apply Kd.S_alloc | apply Kd.S_drewN | apply Kd.S_drew)); exact HO516.out) (Kd.R_base ho0) hb); replace HO519 := Aside0.mk (Kd.S_elder' (by (with_reducible repeat (first | apply Kd.S_alloc | apply Kd.S_drewN | apply Kd.S_drew)); exact HO519.out) (Kd.R_base ho0) hb); replace HO522 := Aside0.mk (Kd.R_elder' (hd_ HO522) (Kd.R_base ho0) hb); replace BK513 := ab_ BK513 hb; replace HB := at_ HB hb; (try clear hb); (try clear hb2); (try clear hk); (try clear hi); (try clear ho0)))
 (try simp only [Act.put, List.setIfInBounds_toArray, List.set_cons_zero, List.set_cons_succ])
 go_loopg [9] k (fun kq v9 w' => ∃ (x9_1 : Int), v9 = .int .i64 x9_1 ∧ Aside0 (laws_FnHops.l0 kq t512 t514 t517 t520 t523 x9_1 t508 t509 = some r) ∧ Aside0 (kq ≤ k) ∧ Aside0 (Kd.S (Kd.slice 3 (Kd.int .i64)) 26 w' w.heap.size (fun k_ => some k_ ≠ ((.slice Ao27 t517.length co27) : Value).ownBlock ∧ some k_ ≠ (v521 : Value).ownBlock ∧ some k_ ≠ (v524 : Value).ownBlock) (.slice Ao28 t514.length co28) t514) ∧ Aside0 (Kd.S (Kd.slice 3 (Kd.int .i64)) 26 w' w.heap.size (fun k_ => some k_ ≠ ((.slice Ao28 t514.length co28) : Value).ownBlock ∧ some k_ ≠ (v521 : Value).ownBlock ∧ some k_ ≠ (v524 : Value).ownBlock) (.slice Ao27 t517.length co27) t517) ∧ Aside0 (Kd.R (Kd.int .i64) 3 w' w.heap.size (fun k_ => some k_ ≠ (v524 : Value).ownBlock) v521 t520) ∧ Aside0 (Kd.R (Kd.int .i64) 3 w' w.heap.size (fun k_ => some k_ ≠ (v521 : Value).ownBlock) v524 t523) ∧ Aside0 (Kd.R k76 76 w' w.heap.size (fun _ => True) (.slice Ao23 t509.length co23) t509) ∧ Aside0 (w'.heap[gb513]? = some (.cells #[.int .i64 t508, (.slice Ao23 t509.length co23)] 30 (0, 0))) ∧ Aside0 (Below w.heap.size w w'))
 case atStart => exact ⟨(0), (by first | rfl | (simp; done) | (simp [*]; done)), H', ⟨Nat.le_refl _⟩, ⟨by (with_reducible repeat (first | apply Kd.S_alloc | apply Kd.S_drewN | apply Kd.S_drew)); exact Kd.S_mono HO516.out (fun _ hk => ⟨hk.1.1.2, ⟨hk.1.2, hk.2⟩⟩)⟩, ⟨by (with_reducible repeat (first | apply Kd.S_alloc | apply Kd.S_drewN | apply Kd.S_drew)); exact Kd.S_mono HO519.out (fun _ hk => ⟨hk.1.1.2, ⟨hk.1.2, hk.2⟩⟩)⟩, ⟨by (with_reducible repeat (first | apply Kd.R_alloc | apply Kd.R_drewN | apply Kd.R_drew)); exact Kd.R_mono HO522.out (fun _ hk => hk.2)⟩, ⟨by (with_reducible repeat (first | apply Kd.R_alloc | apply Kd.R_drewN | apply Kd.R_drew)); exact Kd.R_mono HO525.out (fun _ hk => hk.2)⟩, ⟨by (with_reducible repeat (first | apply Kd.R_alloc | apply Kd.R_drewN | apply Kd.R_drew)); exact HO511.out⟩, ⟨bx_ BK513⟩, ⟨bw115_⟩⟩
 case round =>
  clear H'
  try clear c1
  try clear c2
  try clear p2
  try clear c3
  try clear c7
  try clear c7b0
  try clear c7b1
  try clear c7b2
  try clear c8
  try clear c8b0
  try clear c8b1
  try clear c8b2
  try clear c13
  try clear c23
  try clear c30
  try clear c31
  try clear c32
  try clear hcz11_0
  try clear hcz11_1
  try clear hcz14_0
  try clear hcz14_1
  try clear hcz22_0
  try clear hcz22_1
  try clear hcz25_0
  try clear hcz25_1
  try clear hcz29_0
  try clear hcz29_1
  try clear hcz31_0
  try clear hcz31_1
  try clear hfz11_0
  try clear hfz11_1
  try clear hfz14_0
  try clear hfz14_1
  try clear hfz22_0
  try clear hfz22_1
  try clear hfz25_0
  try clear hfz25_1
  try clear hfz29_0
  try clear hfz29_1
  try clear hfz31_0
  try clear hfz31_1
  obtain ⟨x9_1, rfl, HA, HK1, HO_5, HO_6, HO_7, HO_8, HO_514001, BK513, HB⟩ := hrel
  cases gk with
  | zero => exact absurd HA.out (by simp [laws_FnHops.l0])
  | succ k1 =>
   have H := HA.out
   clear HA
   simp only [laws_FnHops.l0] at H
   by_cases c33 : x9_1 < t508
   rotate_left
   ·rw [if_neg c33] at H
    have c33b0 : decide (x9_1 < t508) = false := decide_eq_false c33
    clear c33
    obtain rfl := Option.some.inj H
    have hcz99_0 := cz_ BK513 0 (.int .i64 t508)
    have hcz99_1 := cz_ BK513 1 (.slice Ao23 t509.length co23)
    have hfz99_0 := blk_frozen BK513.out 0
    have hfz99_1 := blk_frozen BK513.out 1
    go_wp2
    go_ret
    exact ⟨by first | rfl | (simp [errW_none, errW_some] <;> rfl) | (simp [*, errW_none, errW_some] <;> rfl), bw115_⟩
   rw [if_pos c33] at H
   have c33b0 : decide (x9_1 < t508) = true := decide_eq_true c33
   clear c33
   replace H := Option.bind_eq_some_iff.mp H
   obtain ⟨t526, A340, H⟩ := H
   have A34 := Aside0.mk A340
   clear A340
   have HC35 := Aside0.mk H
   clear H
   have hcz36_0 := cz_ BK513 0 (.int .i64 t508)
   have hcz36_1 := cz_ BK513 1 (.slice Ao23 t509.length co23)
   have hfz36_0 := blk_frozen BK513.out 0
   have hfz36_1 := blk_frozen BK513.out 1
   go_upto_region 16 with ((with_reducible refine gate_callee (f := 34) rfl ?_); refine gl_ (some 48) Try.func34 #[.agg #[.int .i64 t508, .slice Ao23 t509.length co23], .int .i64 t512, .int .i64 x9_1] ?_; (with_reducible refine (impl_HopsTo.calls k1 t508 _ _ t509 t512 x9_1 t526 _ ?side1 ?side2 A34.out).mono ?_); (case side1 => exact rc_ HO_514001); (case side2 => exact (Kd.R_reads' HO_514001.out).2.1); rintro e w37 ⟨v527, rfl, ho0, hb⟩; refine ⟨_, rfl, ?_⟩; have HO528 := Aside0.mk (Kd.R_lower (Kd.R_new' (Kd.R_new' ho0 (Kd.R_lt (hd_ HO_7))) (Kd.R_lt (hd_ HO_8))) (bz_ HB)); replace HO_5 := Aside0.mk (Kd.S_elder' (by (with_reducible repeat (first | apply Kd.S_alloc | apply Kd.S_drewN | apply Kd.S_drew)); exact HO_5.out) (Kd.R_base ho0) hb); replace HO_6 := Aside0.mk (Kd.S_elder' (by (with_reducible repeat (first | apply Kd.S_alloc | apply Kd.S_drewN | apply Kd.S_drew)); exact HO_6.out) (Kd.R_base ho0) hb); replace HO_514001 := rb_ HO_514001 hb; replace HO_7 := Aside0.mk (Kd.R_elder' (hd_ HO_7) (Kd.R_base ho0) hb); replace HO_8 := Aside0.mk (Kd.R_elder' (hd_ HO_8) (Kd.R_base ho0) hb); replace BK513 := ab_ BK513 hb; replace HB := at_ HB hb; (try clear hb); (try clear hb2); (try clear hk); (try clear hi); (try clear ho0))
   (try simp only [Act.put, List.setIfInBounds_toArray, List.set_cons_zero, List.set_cons_succ])
   go_cut [83] (fun v83 wc => ∃ (kq : Nat) (x83_34 : Bool), v83 = .bool x83_34 ∧ Aside0 (laws_FnHops.j1 kq t512 t514 t517 t520 t523 x9_1 t526 x83_34 t508 t509 = some r) ∧ Aside0 (kq ≤ k1) ∧ Aside0 (Kd.S (Kd.slice 3 (Kd.int .i64)) 26 wc w.heap.size (fun k_ => some k_ ≠ ((.slice Ao27 t517.length co27) : Value).ownBlock ∧ some k_ ≠ (v521 : Value).ownBlock ∧ some k_ ≠ (v524 : Value).ownBlock ∧ some k_ ≠ (v527 : Value).ownBlock) (.slice Ao28 t514.length co28) t514) ∧ Aside0 (Kd.S (Kd.slice 3 (Kd.int .i64)) 26 wc w.heap.size (fun k_ => some k_ ≠ ((.slice Ao28 t514.length co28) : Value).ownBlock ∧ some k_ ≠ (v521 : Value).ownBlock ∧ some k_ ≠ (v524 : Value).ownBlock ∧ some k_ ≠ (v527 : Value).ownBlock) (.slice Ao27 t517.length co27) t517) ∧ Aside0 (Kd.R (Kd.int .i64) 3 wc w.heap.size (fun k_ => some k_ ≠ (v524 : Value).ownBlock ∧ some k_ ≠ (v527 : Value).ownBlock) v521 t520) ∧ Aside0 (Kd.R (Kd.int .i64) 3 wc w.heap.size (fun k_ => some k_ ≠ (v521 : Value).ownBlock ∧ some k_ ≠ (v527 : Value).ownBlock) v524 t523) ∧ Aside0 (Kd.R (Kd.int .i64) 3 wc w.heap.size (fun k_ => some k_ ≠ (v521 : Value).ownBlock ∧ some k_ ≠ (v524 : Value).ownBlock) v527 t526) ∧ Aside0 (Kd.R k76 76 wc w.heap.size (fun _ => True) (.slice Ao23 t509.length co23) t509) ∧ Aside0 (wc.heap[gb513]? = some (.cells #[.int .i64 t508, (.slice Ao23 t509.length co23)] 30 (0, 0))) ∧ Aside0 (Below w.heap.size w wc))
   case first =>
    have H := HC35.out
    clear HC35
    by_cases c38 : 0 ≤ x9_1
    rotate_left
    ·rw [if_neg c38] at H
     exact absurd H (by simp)
    rw [if_pos c38] at H
    have c38b0 : decide (0 ≤ x9_1) = true := decide_eq_true c38
    clear c38
    (first | rw [c38b0] | (simp only [i64_w, i32_w]; rw [c38b0]) | skip)
    by_cases c39 : x9_1 < (t517.length : Int)
    rotate_left
    ·rw [if_neg c39] at H
     exact absurd H (by simp)
    rw [if_pos c39] at H
    have c39b0 : decide (x9_1 < (t517.length : Int)) = true := decide_eq_true c39
    clear c39
    by_cases c40 : x9_1 < (t514.length : Int)
    rotate_left
    ·rw [if_neg c40] at H
     exact absurd H (by simp)
    rw [if_pos c40] at H
    have c40b0 : decide (x9_1 < (t514.length : Int)) = true := decide_eq_true c40
    clear c40
    replace H := Option.bind_eq_some_iff.mp H
    obtain ⟨t531, A410, H⟩ := H
    have A41 := Aside0.mk A410
    clear A410
    by_cases c42 : t531 = true
    rotate_left
    ·replace c42 := Bool.eq_false_iff.mpr c42
     subst c42
     rw [if_neg (show ¬ (false = true) by decide)] at H
     have H' := Aside0.mk H
     clear H
     try go_wp2
     replace HO_5 := Aside0.mk (Kd.S_drew HO_5.out)
     replace HO_6 := Aside0.mk (Kd.S_drew HO_6.out)
     replace HO_7 := Aside0.mk (Kd.R_drew HO_7.out)
     replace HO_8 := Aside0.mk (Kd.R_drew HO_8.out)
     replace HO_514001 := Aside0.mk (Kd.R_drew HO_514001.out)
     replace HO528 := Aside0.mk (Kd.R_drew HO528.out)
     replace BK513 := ad_ BK513
     replace HB := Aside0.mk (below_drew1 HB.out)
     have p529 : 0 ≤ (x9_1 : Int) := of_decide_eq_true (by first | (with_reducible assumption) | assumption)
     have q529 : x9_1 < (t517.length : Int) := of_decide_eq_true (by first | (with_reducible assumption) | assumption)
     obtain ⟨ad529, A529_0, c529_0, e529, hx529_0, hl529_0, hi529_0⟩ := at_L2 (Kd.S_reads' HO_6.out).2.2 x9_1 p529 q529
     cases e529
     obtain ⟨ce529, hce529, hMe529, hcc529⟩ := Kd.S_get HO_6.out [] x9_1 p529 (by first | exact q529 | exact of_decide_eq_true (by first | (with_reducible assumption) | assumption) | (have e_ := (Kd.S_reads' HO_6.out).1; omega))
     obtain ⟨ve529_0, rfl, ge529_0⟩ := hMe529
     have hv529_0 := hcc529 0 _ rfl
     rw [Nat.add_zero, show ((Kd.slice 3 (Kd.int .i64))).sz = 1 from rfl, Nat.mul_one] at hv529_0
     replace hv529_0 := Option.some.inj (hv529_0.symm.trans hx529_0)
     rw [hv529_0] at ge529_0
     have HL529_0 := Aside0.mk (show Kd.R (Kd.int .i64) 3 _ _ _ _ (rd_L2 t517 x9_1) from ge529_0)
     clear hv529_0 ge529_0
     clear hcc529 hce529
     have HR529_0 := Aside0.mk hi529_0
     have HC529_0 := Aside0.mk hl529_0
     clear hi529_0 hl529_0
     replace p529 := eq_true p529
     replace q529 := eq_true q529
     have p530 : 0 ≤ (x9_1 : Int) := of_decide_eq_true (by first | (with_reducible assumption) | assumption)
     have q530 : x9_1 < (t514.length : Int) := of_decide_eq_true (by first | (with_reducible assumption) | assumption)
     obtain ⟨ad530, A530_0, c530_0, e530, hx530_0, hl530_0, hi530_0⟩ := at_L2 (Kd.S_reads' HO_5.out).2.2 x9_1 p530 q530
     cases e530
     obtain ⟨ce530, hce530, hMe530, hcc530⟩ := Kd.S_get HO_5.out [] x9_1 p530 (by first | exact q530 | exact of_decide_eq_true (by first | (with_reducible assumption) | assumption) | (have e_ := (Kd.S_reads' HO_5.out).1; omega))
     obtain ⟨ve530_0, rfl, ge530_0⟩ := hMe530
     have hv530_0 := hcc530 0 _ rfl
     rw [Nat.add_zero, show ((Kd.slice 3 (Kd.int .i64))).sz = 1 from rfl, Nat.mul_one] at hv530_0
     replace hv530_0 := Option.some.inj (hv530_0.symm.trans hx530_0)
     rw [hv530_0] at ge530_0
     have HL530_0 := Aside0.mk (show Kd.R (Kd.int .i64) 3 _ _ _ _ (rd_L2 t514 x9_1) from ge530_0)
     clear hv530_0 ge530_0
     clear hcc530 hce530
     have HR530_0 := Aside0.mk hi530_0
     have HC530_0 := Aside0.mk hl530_0
     clear hi530_0 hl530_0
     replace p530 := eq_true p530
     replace q530 := eq_true q530
     refine start_ (n := 35) (S := fun w' => w'.cell? (ad529.add (x9_1).toNat) = some (.slice A529_0 (rd_L2 t517 x9_1).length c529_0) ∧ w'.cell? (ad530.add (x9_1).toNat) = some (.slice A530_0 (rd_L2 t514 x9_1).length c530_0)) (ds := []) ba16_0 (by kernel_rfl) rfl rfl ⟨hx529_0, hx530_0⟩ (fun hHeld => ?_); refine with_tabW laws_FnHops.tab16 laws_FnHops.bits16 (fun HT_ HW_ => ?_)
     generalize w37.drew = w54 at HO_5 HO_6 HO_7 HO_8 HO_514001 HO528 BK513 HB HL529_0 HL530_0 HR529_0 HR530_0 hx529_0 hx530_0 hHeld ⊢
     refine pz_ 0 49 ba16_1 HT_ ?_
     refine pz_ 1 50 ba16_2 HT_ ?_
     refine pz_ 2 51 ba16_3 HT_ ?_
     refine pz_ 4 53 ba16_4 HT_ ?_
     refine pz_ 5 54 ba16_5 HT_ ?_
     refine pz_ 6 55 ba16_6 HT_ ?_
     refine pt_ 3 52 ba16_7 HT_ HW_ hHeld ?_
     refine pt_ 7 56 ba16_8 HT_ HW_ hHeld ?_
     refine one_ (i := 8) (N := some 57) ba16_9 rfl rfl (one_of HT_.out (by kernel_rfl)) (by decide) (fun K hK => ?_)
     refine gz_ Try.func28 #[.slice A529_0 (rd_L2 t517 x9_1).length c529_0, .slice A530_0 (rd_L2 t514 x9_1).length c530_0] ?_
     with_reducible refine (laws_same.calls k1 _ _ (rd_L2 t517 x9_1) _ _ (rd_L2 t514 x9_1) false _ ?side1 ?side2 ?side3 ?side4 A41.out).mono ?_
     (case side1 => repeat (first | exact (by repeat (first | (with_reducible exact HR529_0.out) | (with_reducible refine Kd.C_alloc ?_ _) | (with_reducible refine Kd.C_drewN ?_ _) | (with_reducible refine Kd.C_drew ?_) | exact HR529_0.out)) | (with_reducible refine Kd.C_alloc ?_ _) | (with_reducible refine Kd.C_drewN ?_ _) | (with_reducible refine Kd.C_drew ?_)))
     (case side2 => exact HC529_0.out)
     (case side3 => repeat (first | exact (by repeat (first | (with_reducible exact HR530_0.out) | (with_reducible refine Kd.C_alloc ?_ _) | (with_reducible refine Kd.C_drewN ?_ _) | (with_reducible refine Kd.C_drew ?_) | exact HR530_0.out)) | (with_reducible refine Kd.C_alloc ?_ _) | (with_reducible refine Kd.C_drewN ?_ _) | (with_reducible refine Kd.C_drew ?_)))
     (case side4 => exact HC530_0.out)
     rintro e w' ⟨rfl, ⟨nd, rfl⟩⟩
     refine ⟨_, rfl, ?_⟩
     refine hK.out _ _ ⟨hHeld.1, hHeld.2⟩ (fun hHeld => ?_)
     clear hK K
     refine nz_ 57 ?_
     refine pz_ 9 58 ba16_10 HT_ ?_
     refine pz_ 10 59 ba16_11 HT_ ?_
     refine pu_ 11 60 ba16_12 HT_ ?_
     refine pu_ 12 61 ba16_13 HT_ ?_
     refine pu_ 13 62 ba16_14 HT_ ?_
     refine pu_ 14 63 ba16_15 HT_ ?_
     refine pu_ 15 64 ba16_16 HT_ ?_
     refine pu_ 16 65 ba16_17 HT_ ?_
     refine pu_ 17 66 ba16_18 HT_ ?_
     refine pz_ 18 67 ba16_19 HT_ ?_
     refine pz_ 19 68 ba16_20 HT_ ?_
     refine pu_ 20 69 ba16_21 HT_ ?_
     refine pu_ 21 70 ba16_22 HT_ ?_
     refine pu_ 22 71 ba16_23 HT_ ?_
     refine pu_ 23 72 ba16_24 HT_ ?_
     refine pu_ 24 73 ba16_25 HT_ ?_
     refine pu_ 25 74 ba16_26 HT_ ?_
     refine pu_ 26 75 ba16_27 HT_ ?_
     refine pu_ 27 76 ba16_28 HT_ ?_
     refine pu_ 28 77 ba16_29 HT_ ?_
     refine pu_ 29 78 ba16_30 HT_ ?_
     refine pu_ 30 79 ba16_31 HT_ ?_
     refine pu_ 31 80 ba16_32 HT_ ?_
     refine pu_ 32 81 ba16_33 HT_ ?_
     refine pu_ 33 82 ba16_34 HT_ ?_
     refine pz_ 34 83 ba16_35 HT_ ?_
     refine done_ (done_of HT_.out (by kernel_rfl)) ?_
     try go_wp2
     go_meet
     case rel => exact ⟨_, (true), (by first | rfl | (simp; done) | (simp [*]; done)), H', ⟨by have := HK1.out; first | omega | exact Nat.le_refl _⟩, ⟨by (with_reducible repeat (first | apply Kd.S_alloc | apply Kd.S_drewN | apply Kd.S_drew)); exact Kd.S_mono HO_5.out (fun _ hk => ⟨hk.1.1, ⟨hk.1.2.1, ⟨hk.1.2.2, hk.2⟩⟩⟩)⟩, ⟨by (with_reducible repeat (first | apply Kd.S_alloc | apply Kd.S_drewN | apply Kd.S_drew)); exact Kd.S_mono HO_6.out (fun _ hk => ⟨hk.1.1, ⟨hk.1.2.1, ⟨hk.1.2.2, hk.2⟩⟩⟩)⟩, ⟨by (with_reducible repeat (first | apply Kd.R_alloc | apply Kd.R_drewN | apply Kd.R_drew)); exact HO_7.out⟩, ⟨by (with_reducible repeat (first | apply Kd.R_alloc | apply Kd.R_drewN | apply Kd.R_drew)); exact HO_8.out⟩, ⟨by (with_reducible repeat (first | apply Kd.R_alloc | apply Kd.R_drewN | apply Kd.R_drew)); exact Kd.R_mono HO528.out (fun _ hk => by first | exact ⟨hk.1.2, hk.2⟩ | grind)⟩, ⟨by (with_reducible repeat (first | apply Kd.R_alloc | apply Kd.R_drewN | apply Kd.R_drew)); exact HO_514001.out⟩, ⟨bx_ BK513⟩, ⟨bw115_⟩⟩
    subst c42
    rw [if_pos rfl] at H
    replace H := Option.bind_eq_some_iff.mp H
    obtain ⟨t533, A430, H⟩ := H
    have A43 := Aside0.mk A430
    clear A430
    by_cases c44 : t533 = true
    rotate_left
    ·replace c44 := Bool.eq_false_iff.mpr c44
     subst c44
     rw [if_neg (show ¬ (false = true) by decide)] at H
     have H' := Aside0.mk H
     clear H
     try go_wp2
     replace HO_5 := Aside0.mk (Kd.S_drew HO_5.out)
     replace HO_6 := Aside0.mk (Kd.S_drew HO_6.out)
     replace HO_7 := Aside0.mk (Kd.R_drew HO_7.out)
     replace HO_8 := Aside0.mk (Kd.R_drew HO_8.out)
     replace HO_514001 := Aside0.mk (Kd.R_drew HO_514001.out)
     replace HO528 := Aside0.mk (Kd.R_drew HO528.out)
     replace BK513 := ad_ BK513
     replace HB := Aside0.mk (below_drew1 HB.out)
     have p529 : 0 ≤ (x9_1 : Int) := of_decide_eq_true (by first | (with_reducible assumption) | assumption)
     have q529 : x9_1 < (t517.length : Int) := of_decide_eq_true (by first | (with_reducible assumption) | assumption)
     obtain ⟨ad529, A529_0, c529_0, e529, hx529_0, hl529_0, hi529_0⟩ := at_L2 (Kd.S_reads' HO_6.out).2.2 x9_1 p529 q529
     cases e529
     obtain ⟨ce529, hce529, hMe529, hcc529⟩ := Kd.S_get HO_6.out [] x9_1 p529 (by first | exact q529 | exact of_decide_eq_true (by first | (with_reducible assumption) | assumption) | (have e_ := (Kd.S_reads' HO_6.out).1; omega))
     obtain ⟨ve529_0, rfl, ge529_0⟩ := hMe529
     have hv529_0 := hcc529 0 _ rfl
     rw [Nat.add_zero, show ((Kd.slice 3 (Kd.int .i64))).sz = 1 from rfl, Nat.mul_one] at hv529_0
     replace hv529_0 := Option.some.inj (hv529_0.symm.trans hx529_0)
     rw [hv529_0] at ge529_0
     have HL529_0 := Aside0.mk (show Kd.R (Kd.int .i64) 3 _ _ _ _ (rd_L2 t517 x9_1) from ge529_0)
     clear hv529_0 ge529_0
     clear hcc529 hce529
     have HR529_0 := Aside0.mk hi529_0
     have HC529_0 := Aside0.mk hl529_0
     clear hi529_0 hl529_0
     replace p529 := eq_true p529
     replace q529 := eq_true q529
     have p530 : 0 ≤ (x9_1 : Int) := of_decide_eq_true (by first | (with_reducible assumption) | assumption)
     have q530 : x9_1 < (t514.length : Int) := of_decide_eq_true (by first | (with_reducible assumption) | assumption)
     obtain ⟨ad530, A530_0, c530_0, e530, hx530_0, hl530_0, hi530_0⟩ := at_L2 (Kd.S_reads' HO_5.out).2.2 x9_1 p530 q530
     cases e530
     obtain ⟨ce530, hce530, hMe530, hcc530⟩ := Kd.S_get HO_5.out [] x9_1 p530 (by first | exact q530 | exact of_decide_eq_true (by first | (with_reducible assumption) | assumption) | (have e_ := (Kd.S_reads' HO_5.out).1; omega))
     obtain ⟨ve530_0, rfl, ge530_0⟩ := hMe530
     have hv530_0 := hcc530 0 _ rfl
     rw [Nat.add_zero, show ((Kd.slice 3 (Kd.int .i64))).sz = 1 from rfl, Nat.mul_one] at hv530_0
     replace hv530_0 := Option.some.inj (hv530_0.symm.trans hx530_0)
     rw [hv530_0] at ge530_0
     have HL530_0 := Aside0.mk (show Kd.R (Kd.int .i64) 3 _ _ _ _ (rd_L2 t514 x9_1) from ge530_0)
     clear hv530_0 ge530_0
     clear hcc530 hce530
     have HR530_0 := Aside0.mk hi530_0
     have HC530_0 := Aside0.mk hl530_0
     clear hi530_0 hl530_0
     replace p530 := eq_true p530
     replace q530 := eq_true q530
     have p532 : 0 ≤ (x9_1 : Int) := of_decide_eq_true (by first | (with_reducible assumption) | assumption)
     have q532 : x9_1 < (t514.length : Int) := of_decide_eq_true (by first | (with_reducible assumption) | assumption)
     obtain ⟨ad532, A532_0, c532_0, e532, hx532_0, hl532_0, hi532_0⟩ := at_L2 (Kd.S_reads' HO_5.out).2.2 x9_1 p532 q532
     obtain rfl : ad530 = ad532 := (by injection e532)
     obtain ⟨ce532, hce532, hMe532, hcc532⟩ := Kd.S_get HO_5.out [] x9_1 p532 (by first | exact q532 | exact of_decide_eq_true (by first | (with_reducible assumption) | assumption) | (have e_ := (Kd.S_reads' HO_5.out).1; omega))
     obtain ⟨ve532_0, rfl, ge532_0⟩ := hMe532
     have hv532_0 := hcc532 0 _ rfl
     rw [Nat.add_zero, show ((Kd.slice 3 (Kd.int .i64))).sz = 1 from rfl, Nat.mul_one] at hv532_0
     replace hv532_0 := Option.some.inj (hv532_0.symm.trans hx532_0)
     rw [hv532_0] at ge532_0
     have HL532_0 := Aside0.mk (show Kd.R (Kd.int .i64) 3 _ _ _ _ (rd_L2 t514 x9_1) from ge532_0)
     clear hv532_0 ge532_0
     clear hcc532 hce532
     have HR532_0 := Aside0.mk hi532_0
     have HC532_0 := Aside0.mk hl532_0
     clear hi532_0 hl532_0
     replace p532 := eq_true p532
     replace q532 := eq_true q532
     have ea_ := Option.some.inj (hx530_0.symm.trans hx532_0)
     injection ea_ with ea_ en_ ec_
     subst ea_
     subst ec_
     clear en_
     refine start_ (n := 35) (S := fun w' => w'.cell? (ad529.add (x9_1).toNat) = some (.slice A529_0 (rd_L2 t517 x9_1).length c529_0) ∧ w'.cell? (ad530.add (x9_1).toNat) = some (.slice A530_0 (rd_L2 t514 x9_1).length c530_0) ∧ w'.cell? (ad530.add (x9_1).toNat) = some (.slice A530_0 (rd_L2 t514 x9_1).length c530_0)) (ds := []) ba16_0 (by kernel_rfl) rfl rfl ⟨hx529_0, hx530_0, hx532_0⟩ (fun hHeld => ?_); refine with_tabW laws_FnHops.tab16 laws_FnHops.bits16 (fun HT_ HW_ => ?_)
     generalize w37.drew = w52 at HO_5 HO_6 HO_7 HO_8 HO_514001 HO528 BK513 HB HL529_0 HL530_0 HL532_0 HR529_0 HR530_0 HR532_0 hx529_0 hx530_0 hx532_0 hHeld ⊢
     refine pz_ 0 49 ba16_1 HT_ ?_
     refine pz_ 1 50 ba16_2 HT_ ?_
     refine pz_ 2 51 ba16_3 HT_ ?_
     refine pz_ 4 53 ba16_4 HT_ ?_
     refine pz_ 5 54 ba16_5 HT_ ?_
     refine pz_ 6 55 ba16_6 HT_ ?_
     refine pt_ 3 52 ba16_7 HT_ HW_ hHeld ?_
     refine pt_ 7 56 ba16_8 HT_ HW_ hHeld ?_
     refine one_ (i := 8) (N := some 57) ba16_9 rfl rfl (one_of HT_.out (by kernel_rfl)) (by decide) (fun K hK => ?_)
     refine gz_ Try.func28 #[.slice A529_0 (rd_L2 t517 x9_1).length c529_0, .slice A530_0 (rd_L2 t514 x9_1).length c530_0] ?_
     with_reducible refine (laws_same.calls k1 _ _ (rd_L2 t517 x9_1) _ _ (rd_L2 t514 x9_1) true _ ?side1 ?side2 ?side3 ?side4 A41.out).mono ?_
     (case side1 => repeat (first | exact (by repeat (first | (with_reducible exact HR529_0.out) | (with_reducible refine Kd.C_alloc ?_ _) | (with_reducible refine Kd.C_drewN ?_ _) | (with_reducible refine Kd.C_drew ?_) | exact HR529_0.out)) | (with_reducible refine Kd.C_alloc ?_ _) | (with_reducible refine Kd.C_drewN ?_ _) | (with_reducible refine Kd.C_drew ?_)))
     (case side2 => exact HC529_0.out)
     (case side3 => repeat (first | exact (by repeat (first | (with_reducible exact HR530_0.out) | (with_reducible refine Kd.C_alloc ?_ _) | (with_reducible refine Kd.C_drewN ?_ _) | (with_reducible refine Kd.C_drew ?_) | exact HR530_0.out)) | (with_reducible refine Kd.C_alloc ?_ _) | (with_reducible refine Kd.C_drewN ?_ _) | (with_reducible refine Kd.C_drew ?_)))
     (case side4 => exact HC530_0.out)
     rintro e w' ⟨rfl, ⟨nd, rfl⟩⟩
     refine ⟨_, rfl, ?_⟩
     obtain ⟨Ao53, co53, eo53⟩ := Kd.R_slice HO528.out
     (first | subst eo53 | (injection eo53 with f1_ f2_ f3_; have f4_ := f1_.symm; have f5_ := f3_.symm; clear f1_ f2_ f3_; subst f4_; subst f5_))
     refine hK.out _ _ ⟨hHeld.1, hHeld.2.1, hHeld.2.2⟩ (fun hHeld => ?_)
     clear hK K
     refine nz_ 57 ?_
     refine pz_ 9 58 ba16_10 HT_ ?_
     refine pz_ 10 59 ba16_11 HT_ ?_
     refine pz_ 11 60 ba16_12 HT_ ?_
     refine pz_ 12 61 ba16_13 HT_ ?_
     refine pz_ 13 62 ba16_14 HT_ ?_
     refine pz_ 14 63 ba16_15 HT_ ?_
     refine pt_ 15 64 ba16_16 HT_ HW_ hHeld ?_
     refine one_ (i := 16) (N := some 65) ba16_17 rfl rfl (one_of HT_.out (by kernel_rfl)) (by decide) (fun K hK => ?_)
     refine gz_ Try.func28 #[.slice Ao53 t526.length co53, .slice A530_0 (rd_L2 t514 x9_1).length c530_0] ?_
     with_reducible refine (laws_same.calls k1 _ _ t526 _ _ (rd_L2 t514 x9_1) false _ ?side1 ?side2 ?side3 ?side4 A43.out).mono ?_
     (case side1 => exact rc_ HO528)
     (case side2 => exact (Kd.R_reads' HO528.out).2.1)
     (case side3 => repeat (first | exact (by repeat (first | (with_reducible exact HR532_0.out) | (with_reducible refine Kd.C_alloc ?_ _) | (with_reducible refine Kd.C_drewN ?_ _) | (with_reducible refine Kd.C_drew ?_) | exact HR532_0.out)) | (with_reducible refine Kd.C_alloc ?_ _) | (with_reducible refine Kd.C_drewN ?_ _) | (with_reducible refine Kd.C_drew ?_)))
     (case side4 => exact HC532_0.out)
     rintro e w' ⟨rfl, ⟨nd, rfl⟩⟩
     refine ⟨_, rfl, ?_⟩
     refine hK.out _ _ ⟨hHeld.1, hHeld.2.1, hHeld.2.2⟩ (fun hHeld => ?_)
     clear hK K
     refine nz_ 65 ?_
     refine pz_ 17 66 ba16_18 HT_ ?_
     refine pz_ 18 67 ba16_19 HT_ ?_
     refine pz_ 19 68 ba16_20 HT_ ?_
     refine pu_ 20 69 ba16_21 HT_ ?_
     refine pu_ 21 70 ba16_22 HT_ ?_
     refine pu_ 22 71 ba16_23 HT_ ?_
     refine pu_ 23 72 ba16_24 HT_ ?_
     refine pu_ 24 73 ba16_25 HT_ ?_
     refine pu_ 25 74 ba16_26 HT_ ?_
     refine pu_ 26 75 ba16_27 HT_ ?_
     refine pu_ 27 76 ba16_28 HT_ ?_
     refine pu_ 28 77 ba16_29 HT_ ?_
     refine pu_ 29 78 ba16_30 HT_ ?_
     refine pu_ 30 79 ba16_31 HT_ ?_
     refine pu_ 31 80 ba16_32 HT_ ?_
     refine pu_ 32 81 ba16_33 HT_ ?_
     refine pu_ 33 82 ba16_34 HT_ ?_
     refine pz_ 34 83 ba16_35 HT_ ?_
     refine done_ (done_of HT_.out (by kernel_rfl)) ?_
     try go_wp2
     go_meet
     case rel => exact ⟨_, (true), (by first | rfl | (simp; done) | (simp [*]; done)), H', ⟨by have := HK1.out; first | omega | exact Nat.le_refl _⟩, ⟨by (with_reducible repeat (first | apply Kd.S_alloc | apply Kd.S_drewN | apply Kd.S_drew)); exact Kd.S_mono HO_5.out (fun _ hk => ⟨hk.1.1, ⟨hk.1.2.1, ⟨hk.1.2.2, hk.2⟩⟩⟩)⟩, ⟨by (with_reducible repeat (first | apply Kd.S_alloc | apply Kd.S_drewN | apply Kd.S_drew)); exact Kd.S_mono HO_6.out (fun _ hk => ⟨hk.1.1, ⟨hk.1.2.1, ⟨hk.1.2.2, hk.2⟩⟩⟩)⟩, ⟨by (with_reducible repeat (first | apply Kd.R_alloc | apply Kd.R_drewN | apply Kd.R_drew)); exact HO_7.out⟩, ⟨by (with_reducible repeat (first | apply Kd.R_alloc | apply Kd.R_drewN | apply Kd.R_drew)); exact HO_8.out⟩, ⟨by (with_reducible repeat (first | apply Kd.R_alloc | apply Kd.R_drewN | apply Kd.R_drew)); exact Kd.R_mono HO528.out (fun _ hk => by first | exact ⟨hk.1.2, hk.2⟩ | grind)⟩, ⟨by (with_reducible repeat (first | apply Kd.R_alloc | apply Kd.R_drewN | apply Kd.R_drew)); exact HO_514001.out⟩, ⟨bx_ BK513⟩, ⟨bw115_⟩⟩
    subst c44
    rw [if_pos rfl] at H
    by_cases c45 : x9_1 = t512
    ·rw [if_pos c45] at H
     have c45b0 : (x9_1 == t512) = true := beq_iff_eq.mpr c45
     have c45b1 : (x9_1 != t512) = false := bne_eq_false_iff_eq.mpr c45
     clear c45
     have H' := Aside0.mk H
     clear H
     try go_wp2
     replace HO_5 := Aside0.mk (Kd.S_drew HO_5.out)
     replace HO_6 := Aside0.mk (Kd.S_drew HO_6.out)
     replace HO_7 := Aside0.mk (Kd.R_drew HO_7.out)
     replace HO_8 := Aside0.mk (Kd.R_drew HO_8.out)
     replace HO_514001 := Aside0.mk (Kd.R_drew HO_514001.out)
     replace HO528 := Aside0.mk (Kd.R_drew HO528.out)
     replace BK513 := ad_ BK513
     replace HB := Aside0.mk (below_drew1 HB.out)
     have p529 : 0 ≤ (x9_1 : Int) := of_decide_eq_true (by first | (with_reducible assumption) | assumption)
     have q529 : x9_1 < (t517.length : Int) := of_decide_eq_true (by first | (with_reducible assumption) | assumption)
     obtain ⟨ad529, A529_0, c529_0, e529, hx529_0, hl529_0, hi529_0⟩ := at_L2 (Kd.S_reads' HO_6.out).2.2 x9_1 p529 q529
     cases e529
     obtain ⟨ce529, hce529, hMe529, hcc529⟩ := Kd.S_get HO_6.out [] x9_1 p529 (by first | exact q529 | exact of_decide_eq_true (by first | (with_reducible assumption) | assumption) | (have e_ := (Kd.S_reads' HO_6.out).1; omega))
     obtain ⟨ve529_0, rfl, ge529_0⟩ := hMe529
     have hv529_0 := hcc529 0 _ rfl
     rw [Nat.add_zero, show ((Kd.slice 3 (Kd.int .i64))).sz = 1 from rfl, Nat.mul_one] at hv529_0
     replace hv529_0 := Option.some.inj (hv529_0.symm.trans hx529_0)
     rw [hv529_0] at ge529_0
     have HL529_0 := Aside0.mk (show Kd.R (Kd.int .i64) 3 _ _ _ _ (rd_L2 t517 x9_1) from ge529_0)
     clear hv529_0 ge529_0
     clear hcc529 hce529
     have HR529_0 := Aside0.mk hi529_0
     have HC529_0 := Aside0.mk hl529_0
     clear hi529_0 hl529_0
     replace p529 := eq_true p529
     replace q529 := eq_true q529
     have p530 : 0 ≤ (x9_1 : Int) := of_decide_eq_true (by first | (with_reducible assumption) | assumption)
     have q530 : x9_1 < (t514.length : Int) := of_decide_eq_true (by first | (with_reducible assumption) | assumption)
     obtain ⟨ad530, A530_0, c530_0, e530, hx530_0, hl530_0, hi530_0⟩ := at_L2 (Kd.S_reads' HO_5.out).2.2 x9_1 p530 q530
     cases e530
     obtain ⟨ce530, hce530, hMe530, hcc530⟩ := Kd.S_get HO_5.out [] x9_1 p530 (by first | exact q530 | exact of_decide_eq_true (by first | (with_reducible assumption) | assumption) | (have e_ := (Kd.S_reads' HO_5.out).1; omega))
     obtain ⟨ve530_0, rfl, ge530_0⟩ := hMe530
     have hv530_0 := hcc530 0 _ rfl
     rw [Nat.add_zero, show ((Kd.slice 3 (Kd.int .i64))).sz = 1 from rfl, Nat.mul_one] at hv530_0
     replace hv530_0 := Option.some.inj (hv530_0.symm.trans hx530_0)
     rw [hv530_0] at ge530_0
     have HL530_0 := Aside0.mk (show Kd.R (Kd.int .i64) 3 _ _ _ _ (rd_L2 t514 x9_1) from ge530_0)
     clear hv530_0 ge530_0
     clear hcc530 hce530
     have HR530_0 := Aside0.mk hi530_0
     have HC530_0 := Aside0.mk hl530_0
     clear hi530_0 hl530_0
     replace p530 := eq_true p530
     replace q530 := eq_true q530
     have p532 : 0 ≤ (x9_1 : Int) := of_decide_eq_true (by first | (with_reducible assumption) | assumption)
     have q532 : x9_1 < (t514.length : Int) := of_decide_eq_true (by first | (with_reducible assumption) | assumption)
     obtain ⟨ad532, A532_0, c532_0, e532, hx532_0, hl532_0, hi532_0⟩ := at_L2 (Kd.S_reads' HO_5.out).2.2 x9_1 p532 q532
     obtain rfl : ad530 = ad532 := (by injection e532)
     obtain ⟨ce532, hce532, hMe532, hcc532⟩ := Kd.S_get HO_5.out [] x9_1 p532 (by first | exact q532 | exact of_decide_eq_true (by first | (with_reducible assumption) | assumption) | (have e_ := (Kd.S_reads' HO_5.out).1; omega))
     obtain ⟨ve532_0, rfl, ge532_0⟩ := hMe532
     have hv532_0 := hcc532 0 _ rfl
     rw [Nat.add_zero, show ((Kd.slice 3 (Kd.int .i64))).sz = 1 from rfl, Nat.mul_one] at hv532_0
     replace hv532_0 := Option.some.inj (hv532_0.symm.trans hx532_0)
     rw [hv532_0] at ge532_0
     have HL532_0 := Aside0.mk (show Kd.R (Kd.int .i64) 3 _ _ _ _ (rd_L2 t514 x9_1) from ge532_0)
     clear hv532_0 ge532_0
     clear hcc532 hce532
     have HR532_0 := Aside0.mk hi532_0
     have HC532_0 := Aside0.mk hl532_0
     clear hi532_0 hl532_0
     replace p532 := eq_true p532
     replace q532 := eq_true q532
     have ea_ := Option.some.inj (hx530_0.symm.trans hx532_0)
     injection ea_ with ea_ en_ ec_
     subst ea_
     subst ec_
     clear en_
     refine start_ (n := 35) (S := fun w' => w'.cell? (ad529.add (x9_1).toNat) = some (.slice A529_0 (rd_L2 t517 x9_1).length c529_0) ∧ w'.cell? (ad530.add (x9_1).toNat) = some (.slice A530_0 (rd_L2 t514 x9_1).length c530_0) ∧ w'.cell? (ad530.add (x9_1).toNat) = some (.slice A530_0 (rd_L2 t514 x9_1).length c530_0)) (ds := []) ba16_0 (by kernel_rfl) rfl rfl ⟨hx529_0, hx530_0, hx532_0⟩ (fun hHeld => ?_); refine with_tabW laws_FnHops.tab16 laws_FnHops.bits16 (fun HT_ HW_ => ?_)
     generalize w37.drew = w46 at HO_5 HO_6 HO_7 HO_8 HO_514001 HO528 BK513 HB HL529_0 HL530_0 HL532_0 HR529_0 HR530_0 HR532_0 hx529_0 hx530_0 hx532_0 hHeld ⊢
     refine pz_ 0 49 ba16_1 HT_ ?_
     refine pz_ 1 50 ba16_2 HT_ ?_
     refine pz_ 2 51 ba16_3 HT_ ?_
     refine pz_ 4 53 ba16_4 HT_ ?_
     refine pz_ 5 54 ba16_5 HT_ ?_
     refine pz_ 6 55 ba16_6 HT_ ?_
     refine pt_ 3 52 ba16_7 HT_ HW_ hHeld ?_
     refine pt_ 7 56 ba16_8 HT_ HW_ hHeld ?_
     refine one_ (i := 8) (N := some 57) ba16_9 rfl rfl (one_of HT_.out (by kernel_rfl)) (by decide) (fun K hK => ?_)
     refine gz_ Try.func28 #[.slice A529_0 (rd_L2 t517 x9_1).length c529_0, .slice A530_0 (rd_L2 t514 x9_1).length c530_0] ?_
     with_reducible refine (laws_same.calls k1 _ _ (rd_L2 t517 x9_1) _ _ (rd_L2 t514 x9_1) true _ ?side1 ?side2 ?side3 ?side4 A41.out).mono ?_
     (case side1 => repeat (first | exact (by repeat (first | (with_reducible exact HR529_0.out) | (with_reducible refine Kd.C_alloc ?_ _) | (with_reducible refine Kd.C_drewN ?_ _) | (with_reducible refine Kd.C_drew ?_) | exact HR529_0.out)) | (with_reducible refine Kd.C_alloc ?_ _) | (with_reducible refine Kd.C_drewN ?_ _) | (with_reducible refine Kd.C_drew ?_)))
     (case side2 => exact HC529_0.out)
     (case side3 => repeat (first | exact (by repeat (first | (with_reducible exact HR530_0.out) | (with_reducible refine Kd.C_alloc ?_ _) | (with_reducible refine Kd.C_drewN ?_ _) | (with_reducible refine Kd.C_drew ?_) | exact HR530_0.out)) | (with_reducible refine Kd.C_alloc ?_ _) | (with_reducible refine Kd.C_drewN ?_ _) | (with_reducible refine Kd.C_drew ?_)))
     (case side4 => exact HC530_0.out)
     rintro e w' ⟨rfl, ⟨nd, rfl⟩⟩
     refine ⟨_, rfl, ?_⟩
     obtain ⟨Ao47, co47, eo47⟩ := Kd.R_slice HO528.out
     (first | subst eo47 | (injection eo47 with f1_ f2_ f3_; have f4_ := f1_.symm; have f5_ := f3_.symm; clear f1_ f2_ f3_; subst f4_; subst f5_))
     refine hK.out _ _ ⟨hHeld.1, hHeld.2.1, hHeld.2.2⟩ (fun hHeld => ?_)
     clear hK K
     refine nz_ 57 ?_
     refine pz_ 9 58 ba16_10 HT_ ?_
     refine pz_ 10 59 ba16_11 HT_ ?_
     refine pz_ 11 60 ba16_12 HT_ ?_
     refine pz_ 12 61 ba16_13 HT_ ?_
     refine pz_ 13 62 ba16_14 HT_ ?_
     refine pz_ 14 63 ba16_15 HT_ ?_
     refine pt_ 15 64 ba16_16 HT_ HW_ hHeld ?_
     refine one_ (i := 16) (N := some 65) ba16_17 rfl rfl (one_of HT_.out (by kernel_rfl)) (by decide) (fun K hK => ?_)
     refine gz_ Try.func28 #[.slice Ao47 t526.length co47, .slice A530_0 (rd_L2 t514 x9_1).length c530_0] ?_
     with_reducible refine (laws_same.calls k1 _ _ t526 _ _ (rd_L2 t514 x9_1) true _ ?side1 ?side2 ?side3 ?side4 A43.out).mono ?_
     (case side1 => exact rc_ HO528)
     (case side2 => exact (Kd.R_reads' HO528.out).2.1)
     (case side3 => repeat (first | exact (by repeat (first | (with_reducible exact HR532_0.out) | (with_reducible refine Kd.C_alloc ?_ _) | (with_reducible refine Kd.C_drewN ?_ _) | (with_reducible refine Kd.C_drew ?_) | exact HR532_0.out)) | (with_reducible refine Kd.C_alloc ?_ _) | (with_reducible refine Kd.C_drewN ?_ _) | (with_reducible refine Kd.C_drew ?_)))
     (case side4 => exact HC532_0.out)
     rintro e w' ⟨rfl, ⟨nd, rfl⟩⟩
     refine ⟨_, rfl, ?_⟩
     refine hK.out _ _ ⟨hHeld.1, hHeld.2.1, hHeld.2.2⟩ (fun hHeld => ?_)
     clear hK K
     refine nz_ 65 ?_
     refine pz_ 17 66 ba16_18 HT_ ?_
     refine pz_ 18 67 ba16_19 HT_ ?_
     refine pz_ 19 68 ba16_20 HT_ ?_
     refine pz_ 20 69 ba16_21 HT_ ?_
     refine pz_ 21 70 ba16_22 HT_ ?_
     refine pz_ 22 71 ba16_23 HT_ ?_
     refine pz_ 23 72 ba16_24 HT_ ?_
     refine pz_ 24 73 ba16_25 HT_ ?_
     refine pz_ 25 74 ba16_26 HT_ ?_
     refine pz_ 26 75 ba16_27 HT_ ?_
     refine pu_ 27 76 ba16_28 HT_ ?_
     refine pu_ 28 77 ba16_29 HT_ ?_
     refine pu_ 29 78 ba16_30 HT_ ?_
     refine pu_ 30 79 ba16_31 HT_ ?_
     refine pu_ 31 80 ba16_32 HT_ ?_
     refine pz_ 32 81 ba16_33 HT_ ?_
     refine pz_ 33 82 ba16_34 HT_ ?_
     refine pz_ 34 83 ba16_35 HT_ ?_
     refine done_ (done_of HT_.out (by kernel_rfl)) ?_
     try go_wp2
     go_meet
     case rel => exact ⟨_, (((decide ((t526.length : Int) > 0)) != false)), (by first | rfl | (simp; done) | (simp [*]; done)), H', ⟨by have := HK1.out; first | omega | exact Nat.le_refl _⟩, ⟨by (with_reducible repeat (first | apply Kd.S_alloc | apply Kd.S_drewN | apply Kd.S_drew)); exact Kd.S_mono HO_5.out (fun _ hk => ⟨hk.1.1, ⟨hk.1.2.1, ⟨hk.1.2.2, hk.2⟩⟩⟩)⟩, ⟨by (with_reducible repeat (first | apply Kd.S_alloc | apply Kd.S_drewN | apply Kd.S_drew)); exact Kd.S_mono HO_6.out (fun _ hk => ⟨hk.1.1, ⟨hk.1.2.1, ⟨hk.1.2.2, hk.2⟩⟩⟩)⟩, ⟨by (with_reducible repeat (first | apply Kd.R_alloc | apply Kd.R_drewN | apply Kd.R_drew)); exact HO_7.out⟩, ⟨by (with_reducible repeat (first | apply Kd.R_alloc | apply Kd.R_drewN | apply Kd.R_drew)); exact HO_8.out⟩, ⟨by (with_reducible repeat (first | apply Kd.R_alloc | apply Kd.R_drewN | apply Kd.R_drew)); exact Kd.R_mono HO528.out (fun _ hk => by first | exact ⟨hk.1.2, hk.2⟩ | grind)⟩, ⟨by (with_reducible repeat (first | apply Kd.R_alloc | apply Kd.R_drewN | apply Kd.R_drew)); exact HO_514001.out⟩, ⟨bx_ BK513⟩, ⟨bw115_⟩⟩
    rw [if_neg c45] at H
    have c45b0 : (x9_1 == t512) = false := beq_eq_false_iff_ne.mpr c45
    have c45b1 : (x9_1 != t512) = true := bne_iff_ne.mpr c45
    by_cases c48 : x9_1 < (t520.length : Int)
    rotate_left
    ·rw [if_neg c48] at H
     exact absurd H (by simp)
    rw [if_pos c48] at H
    have c48b0 : decide (x9_1 < (t520.length : Int)) = true := decide_eq_true c48
    clear c48
    have H' := Aside0.mk H
    clear H
    try go_wp2
    replace HO_5 := Aside0.mk (Kd.S_drew HO_5.out)
    replace HO_6 := Aside0.mk (Kd.S_drew HO_6.out)
    replace HO_7 := Aside0.mk (Kd.R_drew HO_7.out)
    replace HO_8 := Aside0.mk (Kd.R_drew HO_8.out)
    replace HO_514001 := Aside0.mk (Kd.R_drew HO_514001.out)
    replace HO528 := Aside0.mk (Kd.R_drew HO528.out)
    replace BK513 := ad_ BK513
    replace HB := Aside0.mk (below_drew1 HB.out)
    have p529 : 0 ≤ (x9_1 : Int) := of_decide_eq_true (by first | (with_reducible assumption) | assumption)
    have q529 : x9_1 < (t517.length : Int) := of_decide_eq_true (by first | (with_reducible assumption) | assumption)
    obtain ⟨ad529, A529_0, c529_0, e529, hx529_0, hl529_0, hi529_0⟩ := at_L2 (Kd.S_reads' HO_6.out).2.2 x9_1 p529 q529
    cases e529
    obtain ⟨ce529, hce529, hMe529, hcc529⟩ := Kd.S_get HO_6.out [] x9_1 p529 (by first | exact q529 | exact of_decide_eq_true (by first | (with_reducible assumption) | assumption) | (have e_ := (Kd.S_reads' HO_6.out).1; omega))
    obtain ⟨ve529_0, rfl, ge529_0⟩ := hMe529
    have hv529_0 := hcc529 0 _ rfl
    rw [Nat.add_zero, show ((Kd.slice 3 (Kd.int .i64))).sz = 1 from rfl, Nat.mul_one] at hv529_0
    replace hv529_0 := Option.some.inj (hv529_0.symm.trans hx529_0)
    rw [hv529_0] at ge529_0
    have HL529_0 := Aside0.mk (show Kd.R (Kd.int .i64) 3 _ _ _ _ (rd_L2 t517 x9_1) from ge529_0)
    clear hv529_0 ge529_0
    clear hcc529 hce529
    have HR529_0 := Aside0.mk hi529_0
    have HC529_0 := Aside0.mk hl529_0
    clear hi529_0 hl529_0
    replace p529 := eq_true p529
    replace q529 := eq_true q529
    have p530 : 0 ≤ (x9_1 : Int) := of_decide_eq_true (by first | (with_reducible assumption) | assumption)
    have q530 : x9_1 < (t514.length : Int) := of_decide_eq_true (by first | (with_reducible assumption) | assumption)
    obtain ⟨ad530, A530_0, c530_0, e530, hx530_0, hl530_0, hi530_0⟩ := at_L2 (Kd.S_reads' HO_5.out).2.2 x9_1 p530 q530
    cases e530
    obtain ⟨ce530, hce530, hMe530, hcc530⟩ := Kd.S_get HO_5.out [] x9_1 p530 (by first | exact q530 | exact of_decide_eq_true (by first | (with_reducible assumption) | assumption) | (have e_ := (Kd.S_reads' HO_5.out).1; omega))
    obtain ⟨ve530_0, rfl, ge530_0⟩ := hMe530
    have hv530_0 := hcc530 0 _ rfl
    rw [Nat.add_zero, show ((Kd.slice 3 (Kd.int .i64))).sz = 1 from rfl, Nat.mul_one] at hv530_0
    replace hv530_0 := Option.some.inj (hv530_0.symm.trans hx530_0)
    rw [hv530_0] at ge530_0
    have HL530_0 := Aside0.mk (show Kd.R (Kd.int .i64) 3 _ _ _ _ (rd_L2 t514 x9_1) from ge530_0)
    clear hv530_0 ge530_0
    clear hcc530 hce530
    have HR530_0 := Aside0.mk hi530_0
    have HC530_0 := Aside0.mk hl530_0
    clear hi530_0 hl530_0
    replace p530 := eq_true p530
    replace q530 := eq_true q530
    have p532 : 0 ≤ (x9_1 : Int) := of_decide_eq_true (by first | (with_reducible assumption) | assumption)
    have q532 : x9_1 < (t514.length : Int) := of_decide_eq_true (by first | (with_reducible assumption) | assumption)
    obtain ⟨ad532, A532_0, c532_0, e532, hx532_0, hl532_0, hi532_0⟩ := at_L2 (Kd.S_reads' HO_5.out).2.2 x9_1 p532 q532
    obtain rfl : ad530 = ad532 := (by injection e532)
    obtain ⟨ce532, hce532, hMe532, hcc532⟩ := Kd.S_get HO_5.out [] x9_1 p532 (by first | exact q532 | exact of_decide_eq_true (by first | (with_reducible assumption) | assumption) | (have e_ := (Kd.S_reads' HO_5.out).1; omega))
    obtain ⟨ve532_0, rfl, ge532_0⟩ := hMe532
    have hv532_0 := hcc532 0 _ rfl
    rw [Nat.add_zero, show ((Kd.slice 3 (Kd.int .i64))).sz = 1 from rfl, Nat.mul_one] at hv532_0
    replace hv532_0 := Option.some.inj (hv532_0.symm.trans hx532_0)
    rw [hv532_0] at ge532_0
    have HL532_0 := Aside0.mk (show Kd.R (Kd.int .i64) 3 _ _ _ _ (rd_L2 t514 x9_1) from ge532_0)
    clear hv532_0 ge532_0
    clear hcc532 hce532
    have HR532_0 := Aside0.mk hi532_0
    have HC532_0 := Aside0.mk hl532_0
    clear hi532_0 hl532_0
    replace p532 := eq_true p532
    replace q532 := eq_true q532
    have ea_ := Option.some.inj (hx530_0.symm.trans hx532_0)
    injection ea_ with ea_ en_ ec_
    subst ea_
    subst ec_
    clear en_
    obtain ⟨Ao51, co51, eo51⟩ := Kd.R_slice HO_7.out
    (first | subst eo51 | (injection eo51 with f1_ f2_ f3_; have f4_ := f1_.symm; have f5_ := f3_.symm; clear f1_ f2_ f3_; subst f4_; subst f5_))
    have p534 : 0 ≤ (x9_1 : Int) := of_decide_eq_true (by first | (with_reducible assumption) | assumption)
    have q534 : x9_1 < (t520.length : Int) := of_decide_eq_true (by first | (with_reducible assumption) | assumption)
    obtain ⟨ad534, e534, hx534_0⟩ := Kd.at_int (Kd.R_reads' HO_7.out).2.2 x9_1 p534 q534
    cases e534
    replace p534 := eq_true p534
    replace q534 := eq_true q534
    refine start_ (n := 35) (S := fun w' => w'.cell? (ad529.add (x9_1).toNat) = some (.slice A529_0 (rd_L2 t517 x9_1).length c529_0) ∧ w'.cell? (ad530.add (x9_1).toNat) = some (.slice A530_0 (rd_L2 t514 x9_1).length c530_0) ∧ w'.cell? (ad530.add (x9_1).toNat) = some (.slice A530_0 (rd_L2 t514 x9_1).length c530_0) ∧ w'.cell? (ad534.add (x9_1).toNat) = some (.int .i64 (rd t520 x9_1))) (ds := []) ba16_0 (by kernel_rfl) rfl rfl ⟨hx529_0, hx530_0, hx532_0, hx534_0⟩ (fun hHeld => ?_); refine with_tabW laws_FnHops.tab16 laws_FnHops.bits16 (fun HT_ HW_ => ?_)
    generalize w37.drew = w49 at HO_5 HO_6 HO_7 HO_8 HO_514001 HO528 BK513 HB HL529_0 HL530_0 HL532_0 HR529_0 HR530_0 HR532_0 hx529_0 hx530_0 hx532_0 hx534_0 hHeld ⊢
    refine pz_ 0 49 ba16_1 HT_ ?_
    refine pz_ 1 50 ba16_2 HT_ ?_
    refine pz_ 2 51 ba16_3 HT_ ?_
    refine pz_ 4 53 ba16_4 HT_ ?_
    refine pz_ 5 54 ba16_5 HT_ ?_
    refine pz_ 6 55 ba16_6 HT_ ?_
    refine pt_ 3 52 ba16_7 HT_ HW_ hHeld ?_
    refine pt_ 7 56 ba16_8 HT_ HW_ hHeld ?_
    refine one_ (i := 8) (N := some 57) ba16_9 rfl rfl (one_of HT_.out (by kernel_rfl)) (by decide) (fun K hK => ?_)
    refine gz_ Try.func28 #[.slice A529_0 (rd_L2 t517 x9_1).length c529_0, .slice A530_0 (rd_L2 t514 x9_1).length c530_0] ?_
    with_reducible refine (laws_same.calls k1 _ _ (rd_L2 t517 x9_1) _ _ (rd_L2 t514 x9_1) true _ ?side1 ?side2 ?side3 ?side4 A41.out).mono ?_
    (case side1 => repeat (first | exact (by repeat (first | (with_reducible exact HR529_0.out) | (with_reducible refine Kd.C_alloc ?_ _) | (with_reducible refine Kd.C_drewN ?_ _) | (with_reducible refine Kd.C_drew ?_) | exact HR529_0.out)) | (with_reducible refine Kd.C_alloc ?_ _) | (with_reducible refine Kd.C_drewN ?_ _) | (with_reducible refine Kd.C_drew ?_)))
    (case side2 => exact HC529_0.out)
    (case side3 => repeat (first | exact (by repeat (first | (with_reducible exact HR530_0.out) | (with_reducible refine Kd.C_alloc ?_ _) | (with_reducible refine Kd.C_drewN ?_ _) | (with_reducible refine Kd.C_drew ?_) | exact HR530_0.out)) | (with_reducible refine Kd.C_alloc ?_ _) | (with_reducible refine Kd.C_drewN ?_ _) | (with_reducible refine Kd.C_drew ?_)))
    (case side4 => exact HC530_0.out)
    rintro e w' ⟨rfl, ⟨nd, rfl⟩⟩
    refine ⟨_, rfl, ?_⟩
    obtain ⟨Ao50, co50, eo50⟩ := Kd.R_slice HO528.out
    (first | subst eo50 | (injection eo50 with f1_ f2_ f3_; have f4_ := f1_.symm; have f5_ := f3_.symm; clear f1_ f2_ f3_; subst f4_; subst f5_))
    refine hK.out _ _ ⟨hHeld.1, hHeld.2.1, hHeld.2.2.1, hHeld.2.2.2⟩ (fun hHeld => ?_)
    clear hK K
    refine nz_ 57 ?_
    refine pz_ 9 58 ba16_10 HT_ ?_
    refine pz_ 10 59 ba16_11 HT_ ?_
    refine pz_ 11 60 ba16_12 HT_ ?_
    refine pz_ 12 61 ba16_13 HT_ ?_
    refine pz_ 13 62 ba16_14 HT_ ?_
    refine pz_ 14 63 ba16_15 HT_ ?_
    refine pt_ 15 64 ba16_16 HT_ HW_ hHeld ?_
    refine one_ (i := 16) (N := some 65) ba16_17 rfl rfl (one_of HT_.out (by kernel_rfl)) (by decide) (fun K hK => ?_)
    refine gz_ Try.func28 #[.slice Ao50 t526.length co50, .slice A530_0 (rd_L2 t514 x9_1).length c530_0] ?_
    with_reducible refine (laws_same.calls k1 _ _ t526 _ _ (rd_L2 t514 x9_1) true _ ?side1 ?side2 ?side3 ?side4 A43.out).mono ?_
    (case side1 => exact rc_ HO528)
    (case side2 => exact (Kd.R_reads' HO528.out).2.1)
    (case side3 => repeat (first | exact (by repeat (first | (with_reducible exact HR532_0.out) | (with_reducible refine Kd.C_alloc ?_ _) | (with_reducible refine Kd.C_drewN ?_ _) | (with_reducible refine Kd.C_drew ?_) | exact HR532_0.out)) | (with_reducible refine Kd.C_alloc ?_ _) | (with_reducible refine Kd.C_drewN ?_ _) | (with_reducible refine Kd.C_drew ?_)))
    (case side4 => exact HC532_0.out)
    rintro e w' ⟨rfl, ⟨nd, rfl⟩⟩
    refine ⟨_, rfl, ?_⟩
    refine hK.out _ _ ⟨hHeld.1, hHeld.2.1, hHeld.2.2.1, hHeld.2.2.2⟩ (fun hHeld => ?_)
    clear hK K
    refine nz_ 65 ?_
    refine pz_ 17 66 ba16_18 HT_ ?_
    refine pz_ 18 67 ba16_19 HT_ ?_
    refine pz_ 19 68 ba16_20 HT_ ?_
    refine pz_ 20 69 ba16_21 HT_ ?_
    refine pz_ 21 70 ba16_22 HT_ ?_
    refine pz_ 22 71 ba16_23 HT_ ?_
    refine pz_ 23 72 ba16_24 HT_ ?_
    refine pz_ 24 73 ba16_25 HT_ ?_
    refine pz_ 25 74 ba16_26 HT_ ?_
    refine pz_ 26 75 ba16_27 HT_ ?_
    refine pz_ 27 76 ba16_28 HT_ ?_
    refine pz_ 28 77 ba16_29 HT_ ?_
    refine pz_ 29 78 ba16_30 HT_ ?_
    refine pt_ 30 79 ba16_31 HT_ HW_ hHeld ?_
    refine pz_ 31 80 ba16_32 HT_ ?_
    refine pz_ 32 81 ba16_33 HT_ ?_
    refine pz_ 33 82 ba16_34 HT_ ?_
    refine pz_ 34 83 ba16_35 HT_ ?_
    refine done_ (done_of HT_.out (by kernel_rfl)) ?_
    try go_wp2
    go_meet
    case rel => exact ⟨_, (((decide ((t526.length : Int) > 0)) != (decide ((rd t520 x9_1) < 1000000)))), (by first | rfl | (simp; done) | (rw [show decide ((t526.length : Int) > 0) = decide (0 < t526.length) from by simp]; cases decide (0 < t526.length) <;> cases (decide ((rd t520 x9_1) < 1000000)) <;> rfl) | (simp [*]; done)), H', ⟨by have := HK1.out; first | omega | exact Nat.le_refl _⟩, ⟨by (with_reducible repeat (first | apply Kd.S_alloc | apply Kd.S_drewN | apply Kd.S_drew)); exact Kd.S_mono HO_5.out (fun _ hk => ⟨hk.1.1, ⟨hk.1.2.1, ⟨hk.1.2.2, hk.2⟩⟩⟩)⟩, ⟨by (with_reducible repeat (first | apply Kd.S_alloc | apply Kd.S_drewN | apply Kd.S_drew)); exact Kd.S_mono HO_6.out (fun _ hk => ⟨hk.1.1, ⟨hk.1.2.1, ⟨hk.1.2.2, hk.2⟩⟩⟩)⟩, ⟨by (with_reducible repeat (first | apply Kd.R_alloc | apply Kd.R_drewN | apply Kd.R_drew)); exact HO_7.out⟩, ⟨by (with_reducible repeat (first | apply Kd.R_alloc | apply Kd.R_drewN | apply Kd.R_drew)); exact HO_8.out⟩, ⟨by (with_reducible repeat (first | apply Kd.R_alloc | apply Kd.R_drewN | apply Kd.R_drew)); exact Kd.R_mono HO528.out (fun _ hk => by first | exact ⟨hk.1.2, hk.2⟩ | grind)⟩, ⟨by (with_reducible repeat (first | apply Kd.R_alloc | apply Kd.R_drewN | apply Kd.R_drew)); exact HO_514001.out⟩, ⟨bx_ BK513⟩, ⟨bw115_⟩⟩
   case rest =>
    clear HC35
    try clear c2
    try clear p2
    try clear c3
    try clear c4
    try clear c5
    try clear p5
    try clear q5
    try clear hx5
    try clear c28
    try clear c38
    try clear c39
    try clear c40
    try clear c42
    try clear c52
    try clear p52
    try clear q52
    try clear hx52
    try clear c53
    try clear p53
    try clear q53
    try clear hx53
    try clear hx529_0
    try clear hx530_0
    try clear hx532_0
    try clear p529
    try clear p530
    try clear p532
    try clear q529
    try clear q530
    try clear q532
    obtain ⟨kq, x83_34, rfl, HA, HJ34, HO_5, HO_6, HO_7, HO_8, HO_10, HO_514001, BK513, HB⟩ := hcut
    cases kq with
    | zero => exact absurd HA.out (by simp [laws_FnHops.j1])
    | succ kj34 =>
     have H := HA.out
     clear HA
     simp only [laws_FnHops.j1] at H
     by_cases c55 : x83_34 = true
     ·subst c55
      rw [if_pos rfl] at H
      obtain rfl := Option.some.inj H
      go_wp2
      go_ret
      exact ⟨by first | rfl | (simp [errW_none, errW_some] <;> rfl) | (simp [*, errW_none, errW_some] <;> rfl), bw115_⟩
     replace c55 := Bool.eq_false_iff.mpr c55
     subst c55
     rw [if_neg (show ¬ (false = true) by decide)] at H
     have H' := Aside0.mk H
     clear H
     go_wp2
     go_loopg [11] kj34 (fun kq v11 w' => ∃ (x11_3 : Int), v11 = .int .i64 x11_3 ∧ Aside0 (laws_FnHops.l1 kq t512 t514 t517 t520 t523 x9_1 t526 x11_3 t508 t509 = some r) ∧ Aside0 (kq ≤ kj34) ∧ Aside0 (Kd.S (Kd.slice 3 (Kd.int .i64)) 26 w' w.heap.size (fun k_ => some k_ ≠ ((.slice Ao27 t517.length co27) : Value).ownBlock ∧ some k_ ≠ (v521 : Value).ownBlock ∧ some k_ ≠ (v524 : Value).ownBlock ∧ some k_ ≠ (v527 : Value).ownBlock) (.slice Ao28 t514.length co28) t514) ∧ Aside0 (Kd.S (Kd.slice 3 (Kd.int .i64)) 26 w' w.heap.size (fun k_ => some k_ ≠ ((.slice Ao28 t514.length co28) : Value).ownBlock ∧ some k_ ≠ (v521 : Value).ownBlock ∧ some k_ ≠ (v524 : Value).ownBlock ∧ some k_ ≠ (v527 : Value).ownBlock) (.slice Ao27 t517.length co27) t517) ∧ Aside0 (Kd.R (Kd.int .i64) 3 w' w.heap.size (fun k_ => some k_ ≠ (v524 : Value).ownBlock ∧ some k_ ≠ (v527 : Value).ownBlock) v521 t520) ∧ Aside0 (Kd.R (Kd.int .i64) 3 w' w.heap.size (fun k_ => some k_ ≠ (v521 : Value).ownBlock ∧ some k_ ≠ (v527 : Value).ownBlock) v524 t523) ∧ Aside0 (Kd.R (Kd.int .i64) 3 w' w.heap.size (fun k_ => some k_ ≠ (v521 : Value).ownBlock ∧ some k_ ≠ (v524 : Value).ownBlock) v527 t526) ∧ Aside0 (Kd.R k76 76 w' w.heap.size (fun _ => True) (.slice Ao23 t509.length co23) t509) ∧ Aside0 (w'.heap[gb513]? = some (.cells #[.int .i64 t508, (.slice Ao23 t509.length co23)] 30 (0, 0))) ∧ Aside0 (Below w.heap.size w w'))
     case atStart => exact ⟨(0), (by first | rfl | (simp; done) | (simp [*]; done)), H', ⟨Nat.le_refl _⟩, ⟨by (with_reducible repeat (first | apply Kd.S_alloc | apply Kd.S_drewN | apply Kd.S_drew)); exact HO_5.out⟩, ⟨by (with_reducible repeat (first | apply Kd.S_alloc | apply Kd.S_drewN | apply Kd.S_drew)); exact HO_6.out⟩, ⟨by (with_reducible repeat (first | apply Kd.R_alloc | apply Kd.R_drewN | apply Kd.R_drew)); exact HO_7.out⟩, ⟨by (with_reducible repeat (first | apply Kd.R_alloc | apply Kd.R_drewN | apply Kd.R_drew)); exact HO_8.out⟩, ⟨by (with_reducible repeat (first | apply Kd.R_alloc | apply Kd.R_drewN | apply Kd.R_drew)); exact HO_10.out⟩, ⟨by (with_reducible repeat (first | apply Kd.R_alloc | apply Kd.R_drewN | apply Kd.R_drew)); exact HO_514001.out⟩, ⟨bx_ BK513⟩, ⟨bw115_⟩⟩
     case round =>
      clear H'
      try clear c2
      try clear p2
      try clear c3
      try clear c4
      try clear c5
      try clear p5
      try clear q5
      try clear hx5
      try clear c28
      try clear c38
      try clear c39
      try clear c40
      try clear c42
      try clear c52
      try clear p52
      try clear q52
      try clear hx52
      try clear c53
      try clear p53
      try clear q53
      try clear hx53
      try clear c55
      try clear hx529_0
      try clear hx530_0
      try clear hx532_0
      try clear p2
      try clear p5
      try clear p52
      try clear p529
      try clear p53
      try clear p530
      try clear p532
      try clear q5
      try clear q52
      try clear q529
      try clear q53
      try clear q530
      try clear q532
      obtain ⟨x11_3, rfl, HA, HK3, HO_5, HO_6, HO_7, HO_8, HO_10, HO_514001, BK513, HB⟩ := hrel
      cases gk with
      | zero => exact absurd HA.out (by simp [laws_FnHops.l1])
      | succ k3 =>
       have H := HA.out
       clear HA
       simp only [laws_FnHops.l1] at H
       by_cases c56 : x11_3 < (t526.length : Int)
       ·rw [if_pos c56] at H
        have c56b0 : decide (x11_3 < (t526.length : Int)) = true := decide_eq_true c56
        clear c56
        by_cases c57 : 0 ≤ x11_3
        rotate_left
        ·rw [if_neg c57] at H
         exact absurd H (by simp)
        rw [if_pos c57] at H
        have c57b0 : decide (0 ≤ x11_3) = true := decide_eq_true c57
        clear c57
        replace H := Option.bind_eq_some_iff.mp H
        obtain ⟨t536, A580, H⟩ := H
        have A58 := Aside0.mk A580
        clear A580
        replace H := Option.bind_eq_some_iff.mp H
        obtain ⟨t538, A590, H⟩ := H
        have A59 := Aside0.mk A590
        clear A590
        by_cases c60 : 0 ≤ x9_1
        rotate_left
        ·rw [if_neg c60] at H
         exact absurd H (by simp)
        rw [if_pos c60] at H
        have c60b0 : decide (0 ≤ x9_1) = true := decide_eq_true c60
        clear c60
        by_cases c61 : x9_1 < (t538.length : Int)
        rotate_left
        ·rw [if_neg c61] at H
         exact absurd H (by simp)
        rw [if_pos c61] at H
        have c61b0 : decide (x9_1 < (t538.length : Int)) = true := decide_eq_true c61
        clear c61
        by_cases c62 : x9_1 < (t520.length : Int)
        rotate_left
        ·rw [if_neg c62] at H
         exact absurd H (by simp)
        rw [if_pos c62] at H
        have c62b0 : decide (x9_1 < (t520.length : Int)) = true := decide_eq_true c62
        clear c62
        have Hh_ := Aside0.mk H
        clear H
        obtain ⟨Ao64, co64, eo64⟩ := Kd.R_slice HO_10.out
        subst eo64
        try go_wp2
        replace HO_5 := Aside0.mk (Kd.S_drew HO_5.out)
        replace HO_6 := Aside0.mk (Kd.S_drew HO_6.out)
        replace HO_7 := Aside0.mk (Kd.R_drew HO_7.out)
        replace HO_8 := Aside0.mk (Kd.R_drew HO_8.out)
        replace HO_10 := Aside0.mk (Kd.R_drew HO_10.out)
        replace HO_514001 := Aside0.mk (Kd.R_drew HO_514001.out)
        replace BK513 := ad_ BK513
        replace HB := Aside0.mk (below_drew1 HB.out)
        have p535 : 0 ≤ (x11_3 : Int) := of_decide_eq_true (by first | (with_reducible assumption) | assumption)
        have q535 : x11_3 < (t526.length : Int) := of_decide_eq_true (by first | (with_reducible assumption) | assumption)
        obtain ⟨ad535, e535, hx535_0⟩ := Kd.at_int (Kd.R_reads' HO_10.out).2.2 x11_3 p535 q535
        cases e535
        replace p535 := eq_true p535
        replace q535 := eq_true q535
        have p537 : 0 ≤ (x11_3 : Int) := of_decide_eq_true (by first | (with_reducible assumption) | assumption)
        have q537 : x11_3 < (t526.length : Int) := of_decide_eq_true (by first | (with_reducible assumption) | assumption)
        obtain ⟨ad537, e537, hx537_0⟩ := Kd.at_int (Kd.R_reads' HO_10.out).2.2 x11_3 p537 q537
        obtain rfl : ad535 = ad537 := (by injection e537)
        replace p537 := eq_true p537
        replace q537 := eq_true q537
        obtain ⟨Ao66, co66, eo66⟩ := Kd.R_slice HO_7.out
        (first | subst eo66 | (injection eo66 with f1_ f2_ f3_; have f4_ := f1_.symm; have f5_ := f3_.symm; clear f1_ f2_ f3_; subst f4_; subst f5_))
        have p542 : 0 ≤ (x9_1 : Int) := of_decide_eq_true (by first | (with_reducible assumption) | assumption)
        have q542 : x9_1 < (t520.length : Int) := of_decide_eq_true (by first | (with_reducible assumption) | assumption)
        obtain ⟨ad542, e542, hx542_0⟩ := Kd.at_int (Kd.R_reads' HO_7.out).2.2 x9_1 p542 q542
        cases e542
        replace p542 := eq_true p542
        replace q542 := eq_true q542
        refine start_ (n := 22) (S := fun w' => w'.cell? ⟨gb513, 0, none⟩ = some (.int .i64 t508) ∧ w'.cell? ⟨gb513, 1, none⟩ = some (.slice Ao23 t509.length co23) ∧ w'.cell? (ad535.add (x11_3).toNat) = some (.int .i64 (rd t526 x11_3)) ∧ w'.cell? (ad535.add (x11_3).toNat) = some (.int .i64 (rd t526 x11_3)) ∧ w'.cell? (ad542.add (x9_1).toNat) = some (.int .i64 (rd t520 x9_1))) (ds := []) ba16_36 (by kernel_rfl) rfl rfl ⟨(blk_cell BK513.out 0).trans rfl, (blk_cell BK513.out 1).trans rfl, hx535_0, hx537_0, hx542_0⟩ (fun hHeld => ?_); refine with_tabW laws_FnHops.tab21 laws_FnHops.bits21 (fun HT_ HW_ => ?_)
        generalize wr.drew = w65 at HO_5 HO_6 HO_7 HO_8 HO_10 HO_514001 BK513 HB hx535_0 hx537_0 hx542_0 hHeld ⊢
        refine pz_ 1 91 ba16_37 HT_ ?_
        refine pz_ 2 92 ba16_38 HT_ ?_
        refine pz_ 3 93 ba16_39 HT_ ?_
        refine pz_ 4 94 ba16_40 HT_ ?_
        refine pz_ 8 98 ba16_41 HT_ ?_
        refine pz_ 9 99 ba16_42 HT_ ?_
        refine pz_ 10 100 ba16_43 HT_ ?_
        refine pz_ 13 103 ba16_44 HT_ ?_
        refine pz_ 17 107 ba16_45 HT_ ?_
        refine pz_ 18 108 ba16_46 HT_ ?_
        refine pz_ 19 109 ba16_47 HT_ ?_
        refine pt_ 0 90 ba16_48 HT_ HW_ hHeld ?_
        refine pt_ 5 95 ba16_49 HT_ HW_ hHeld ?_
        refine pt_ 7 97 ba16_50 HT_ HW_ hHeld ?_
        refine pt_ 11 101 ba16_51 HT_ HW_ hHeld ?_
        refine pt_ 20 110 ba16_52 HT_ HW_ hHeld ?_
        refine one_ (i := 6) (N := some 96) ba16_53 rfl rfl (one_of HT_.out (by kernel_rfl)) (by decide) (fun K hK => ?_)
        refine gz_ Try.func29 #[.agg #[.int .i64 t508, .slice Ao23 t509.length co23], .int .i64 t512, .int .i64 (rd t526 x11_3)] ?_
        with_reducible refine (impl_CostOf.calls k3 t508 _ _ t509 t512 (rd t526 x11_3) t536 _ ?side1 ?side2 A58.out).mono ?_
        (case side1 => exact rc_ HO_514001)
        (case side2 => exact (Kd.R_reads' HO_514001.out).2.1)
        rintro e w67 ⟨rfl, hb⟩
        have HS2_ := (hb.cell (World.block_lt_of_cell? _ _ (hHeld.2.2.1))).trans (hHeld.2.2.1)
        have HS3_ := (hb.cell (World.block_lt_of_cell? _ _ (hHeld.2.2.2.1))).trans (hHeld.2.2.2.1)
        have HS4_ := (hb.cell (World.block_lt_of_cell? _ _ (hHeld.2.2.2.2))).trans (hHeld.2.2.2.2)
        refine ⟨_, rfl, ?_⟩
        replace HO_5 := Aside0.mk (Kd.S_below (by (with_reducible repeat (first | apply Kd.S_alloc | apply Kd.S_drewN | apply Kd.S_drew)); exact HO_5.out) hb)
        replace HO_6 := Aside0.mk (Kd.S_below (by (with_reducible repeat (first | apply Kd.S_alloc | apply Kd.S_drewN | apply Kd.S_drew)); exact HO_6.out) hb)
        replace HO_7 := rb_ HO_7 hb
        replace HO_8 := rb_ HO_8 hb
        replace HO_10 := rb_ HO_10 hb
        replace HO_514001 := rb_ HO_514001 hb
        replace BK513 := ab_ BK513 hb
        replace HB := at_ HB hb
        (try clear hb)
        (try clear hb2)
        (try clear hk)
        (try clear hi)
        refine hK.out _ _ ⟨(blk_cell BK513.out 0).trans rfl, (blk_cell BK513.out 1).trans rfl, HS2_, HS3_, HS4_⟩ (fun hHeld => ?_)
        clear hK K
        refine nz_ 96 ?_
        refine one_ (i := 12) (N := some 102) ba16_54 rfl rfl (one_of HT_.out (by kernel_rfl)) (by decide) (fun K hK => ?_)
        refine gz_ Try.func33 #[.agg #[.int .i64 t508, .slice Ao23 t509.length co23], .int .i64 (rd t526 x11_3)] ?_
        with_reducible refine (spec_Distances.calls k3 t508 _ _ t509 (rd t526 x11_3) t538 _ ?side1 ?side2 A59.out).mono ?_
        (case side1 => exact rc_ HO_514001)
        (case side2 => exact (Kd.R_reads' HO_514001.out).2.1)
        rintro e w68 ⟨v539, rfl, ho0, hb⟩
        have HS2_ := (hb.cell (World.block_lt_of_cell? _ _ (hHeld.2.2.1))).trans (hHeld.2.2.1)
        have HS3_ := (hb.cell (World.block_lt_of_cell? _ _ (hHeld.2.2.2.1))).trans (hHeld.2.2.2.1)
        have HS4_ := (hb.cell (World.block_lt_of_cell? _ _ (hHeld.2.2.2.2))).trans (hHeld.2.2.2.2)
        refine ⟨_, rfl, ?_⟩
        have HO540 := Aside0.mk (Kd.R_lower (Kd.R_new' (Kd.R_new' (Kd.R_new' ho0 (Kd.R_lt (hd_ HO_7))) (Kd.R_lt (hd_ HO_8))) (Kd.R_lt (hd_ HO_10))) (bz_ HB))
        replace HO_5 := Aside0.mk (Kd.S_elder' (by (with_reducible repeat (first | apply Kd.S_alloc | apply Kd.S_drewN | apply Kd.S_drew)); exact HO_5.out) (Kd.R_base ho0) hb)
        replace HO_6 := Aside0.mk (Kd.S_elder' (by (with_reducible repeat (first | apply Kd.S_alloc | apply Kd.S_drewN | apply Kd.S_drew)); exact HO_6.out) (Kd.R_base ho0) hb)
        replace HO_514001 := rb_ HO_514001 hb
        replace HO_7 := Aside0.mk (Kd.R_elder' (hd_ HO_7) (Kd.R_base ho0) hb)
        replace HO_8 := Aside0.mk (Kd.R_elder' (hd_ HO_8) (Kd.R_base ho0) hb)
        replace HO_10 := Aside0.mk (Kd.R_elder' (hd_ HO_10) (Kd.R_base ho0) hb)
        replace BK513 := ab_ BK513 hb
        replace HB := at_ HB hb
        (try clear hb)
        (try clear hb2)
        (try clear hk)
        (try clear hi)
        (try clear ho0)
        obtain ⟨Ao69, co69, eo69⟩ := Kd.R_slice HO540.out
        (first | subst eo69 | (injection eo69 with f1_ f2_ f3_; have f4_ := f1_.symm; have f5_ := f3_.symm; clear f1_ f2_ f3_; subst f4_; subst f5_))
        have p541 : 0 ≤ (x9_1 : Int) := of_decide_eq_true (by first | (with_reducible assumption) | assumption)
        have q541 : x9_1 < (t538.length : Int) := of_decide_eq_true (by first | (with_reducible assumption) | assumption)
        obtain ⟨ad541, e541, hx541_0⟩ := Kd.at_int (Kd.R_reads' HO540.out).2.2 x9_1 p541 q541
        cases e541
        replace p541 := eq_true p541
        replace q541 := eq_true q541
        refine hK.out _ _ ⟨(blk_cell BK513.out 0).trans rfl, (blk_cell BK513.out 1).trans rfl, HS2_, HS3_, HS4_⟩ (fun hHeld => ?_)
        clear hK K
        refine nz_ 102 ?_
        refine pz_ 14 104 ba16_55 HT_ ?_
        refine po_ 15 105 ba16_56 HT_ (fun w' => w'.cell? ⟨gb513, 0, none⟩ = some (.int .i64 t508) ∧ w'.cell? ⟨gb513, 1, none⟩ = some (.slice Ao23 t509.length co23) ∧ w'.cell? (ad535.add (x11_3).toNat) = some (.int .i64 (rd t526 x11_3)) ∧ w'.cell? (ad535.add (x11_3).toNat) = some (.int .i64 (rd t526 x11_3)) ∧ w'.cell? (ad542.add (x9_1).toNat) = some (.int .i64 (rd t520 x9_1)) ∧ w'.cell? (ad541.add (x9_1).toNat) = some (.int .i64 (rd t538 x9_1))) ⟨hHeld.1, hHeld.2.1, hHeld.2.2.1, hHeld.2.2.2.1, hHeld.2.2.2.2, hx541_0⟩ ?_
        have H := Hh_.out
        clear Hh_
        by_cases c63 : (wrap64 (t536 + (rd t538 x9_1))) = (rd t520 x9_1)
        rotate_left
        ·rw [if_neg c63] at H
         have c63b0 : ((wrap64 (t536 + (rd t538 x9_1))) == (rd t520 x9_1)) = false := beq_eq_false_iff_ne.mpr c63
         have c63b1 : ((wrap64 (t536 + (rd t538 x9_1))) != (rd t520 x9_1)) = true := bne_iff_ne.mpr c63
         obtain rfl := Option.some.inj H
         refine pz_ 16 106 ba16_57 HT_ ?_
         refine pz_ 21 111 ba16_58 HT_ ?_
         refine done_ (done_of HT_.out (by kernel_rfl)) ?_
         try go_wp2
         go_ret
         exact ⟨by first | rfl | (simp [errW_none, errW_some] <;> rfl) | (simp [*, errW_none, errW_some] <;> rfl), bw115_⟩
        rw [if_pos c63] at H
        have c63b0 : ((wrap64 (t536 + (rd t538 x9_1))) == (rd t520 x9_1)) = true := beq_iff_eq.mpr c63
        have c63b1 : ((wrap64 (t536 + (rd t538 x9_1))) != (rd t520 x9_1)) = false := bne_eq_false_iff_eq.mpr c63
        clear c63
        have H' := Aside0.mk H
        clear H
        refine pz_ 16 106 ba16_57 HT_ ?_
        refine pz_ 21 111 ba16_58 HT_ ?_
        refine done_ (done_of HT_.out (by kernel_rfl)) ?_
        try go_wp2
        go_roundg k3
        case measure => have := HK1.out; have := HJ34.out; have := HK3.out; omega
        case rel => exact ⟨(wrap64 (x11_3 + 1)), (by first | rfl | (simp; done) | (simp [*]; done)), H', ⟨by have := HK1.out; have := HJ34.out; have := HK3.out; omega⟩, ⟨by (with_reducible repeat (first | apply Kd.S_alloc | apply Kd.S_drewN | apply Kd.S_drew)); exact Kd.S_mono HO_5.out (fun _ hk => ⟨hk.1.1, ⟨hk.1.2.1, ⟨hk.1.2.2.1, hk.1.2.2.2⟩⟩⟩)⟩, ⟨by (with_reducible repeat (first | apply Kd.S_alloc | apply Kd.S_drewN | apply Kd.S_drew)); exact Kd.S_mono HO_6.out (fun _ hk => ⟨hk.1.1, ⟨hk.1.2.1, ⟨hk.1.2.2.1, hk.1.2.2.2⟩⟩⟩)⟩, ⟨by (with_reducible repeat (first | apply Kd.R_alloc | apply Kd.R_drewN | apply Kd.R_drew)); exact Kd.R_mono HO_7.out (fun _ hk => by first | exact ⟨hk.1.1, hk.1.2⟩ | grind)⟩, ⟨by (with_reducible repeat (first | apply Kd.R_alloc | apply Kd.R_drewN | apply Kd.R_drew)); exact Kd.R_mono HO_8.out (fun _ hk => by first | exact ⟨hk.1.1, hk.1.2⟩ | grind)⟩, ⟨by (with_reducible repeat (first | apply Kd.R_alloc | apply Kd.R_drewN | apply Kd.R_drew)); exact Kd.R_mono HO_10.out (fun _ hk => by first | exact ⟨hk.1.1, hk.1.2⟩ | grind)⟩, ⟨by (with_reducible repeat (first | apply Kd.R_alloc | apply Kd.R_drewN | apply Kd.R_drew)); exact HO_514001.out⟩, ⟨bx_ BK513⟩, ⟨bw115_⟩⟩
       rw [if_neg c56] at H
       have c56b0 : decide (x11_3 < (t526.length : Int)) = false := decide_eq_false c56
       clear c56
       by_cases c76 : 0 ≤ x9_1
       rotate_left
       ·rw [if_neg c76] at H
        exact absurd H (by simp)
       rw [if_pos c76] at H
       have c76b0 : decide (0 ≤ x9_1) = true := decide_eq_true c76
       clear c76
       by_cases c77 : x9_1 < (t523.length : Int)
       rotate_left
       ·rw [if_neg c77] at H
        exact absurd H (by simp)
       rw [if_pos c77] at H
       have c77b0 : decide (x9_1 < (t523.length : Int)) = true := decide_eq_true c77
       clear c77
       have Hh_ := Aside0.mk H
       clear H
       obtain ⟨Ao79, co79, eo79⟩ := Kd.R_slice HO_10.out
       subst eo79
       try go_wp2
       replace HO_5 := Aside0.mk (Kd.S_drew HO_5.out)
       replace HO_6 := Aside0.mk (Kd.S_drew HO_6.out)
       replace HO_7 := Aside0.mk (Kd.R_drew HO_7.out)
       replace HO_8 := Aside0.mk (Kd.R_drew HO_8.out)
       replace HO_10 := Aside0.mk (Kd.R_drew HO_10.out)
       replace HO_514001 := Aside0.mk (Kd.R_drew HO_514001.out)
       replace BK513 := ad_ BK513
       replace HB := Aside0.mk (below_drew1 HB.out)
       obtain ⟨Ao81, co81, eo81⟩ := Kd.R_slice HO_8.out
       (first | subst eo81 | (injection eo81 with f1_ f2_ f3_; have f4_ := f1_.symm; have f5_ := f3_.symm; clear f1_ f2_ f3_; subst f4_; subst f5_))
       have p543 : 0 ≤ (x9_1 : Int) := of_decide_eq_true (by first | (with_reducible assumption) | assumption)
       have q543 : x9_1 < (t523.length : Int) := of_decide_eq_true (by first | (with_reducible assumption) | assumption)
       obtain ⟨ad543, e543, hx543_0⟩ := Kd.at_int (Kd.R_reads' HO_8.out).2.2 x9_1 p543 q543
       cases e543
       replace p543 := eq_true p543
       replace q543 := eq_true q543
       have H := Hh_.out
       clear Hh_
       by_cases c78 : ((decide ((rd t523 x9_1) ≥ 0)) != (decide ((t526.length : Int) > 0))) = true
       ·rw [if_pos c78] at H
        have c78b0 : ((decide ((rd t523 x9_1) ≥ 0)) != (decide ((t526.length : Int) > 0))) = true := c78
        (try (have c78b1 : decide ((decide ((rd t523 x9_1) ≥ 0)) = (decide ((t526.length : Int) > 0))) = false := by simpa using c78))
        (try (have c78b2 : ((decide ((rd t523 x9_1) ≥ 0)) == (decide ((t526.length : Int) > 0))) = false := by simpa using c78))
        (try (have c78b4 : ((decide ((rd t523 x9_1) ≥ 0)) == (decide (0 < t526.length))) = false := by simpa using c78))
        (try (have c78b3 : ¬ ((decide ((rd t523 x9_1) ≥ 0)) = (decide ((t526.length : Int) > 0))) := by simpa using c78))
        clear c78
        obtain rfl := Option.some.inj H
        refine start_ (n := 28) (S := fun w' => w'.cell? (ad543.add (x9_1).toNat) = some (.int .i64 (rd t523 x9_1))) (ds := []) ba16_59 (by kernel_rfl) rfl rfl (hx543_0) (fun hHeld => ?_); refine with_tabW laws_FnHops.tab23 laws_FnHops.bits23 (fun HT_ HW_ => ?_)
        generalize wr.drew = w80 at HO_5 HO_6 HO_7 HO_8 HO_10 HO_514001 BK513 HB hx543_0 hHeld ⊢
        refine pz_ 0 112 ba16_60 HT_ ?_
        refine pz_ 1 113 ba16_61 HT_ ?_
        refine pz_ 2 114 ba16_62 HT_ ?_
        refine pz_ 5 117 ba16_63 HT_ ?_
        refine pz_ 6 118 ba16_64 HT_ ?_
        refine pz_ 7 119 ba16_65 HT_ ?_
        refine take_ (i := 3) (N := some 115) (v := ?_) (a' := ?_) ba16_66 rfl rfl (take_ofW HT_.out HW_.out (by kernel_rfl)) (fun _ _ _ h => h) (Or.inl ⟨by rfl, ?_⟩) hHeld ?_ ?_
        rotate_left; · intro w' s0; go_simp; with_reducible rfl
        rotate_left; · simp only [Act.put, List.setIfInBounds_toArray, List.set_cons_zero, List.set_cons_succ, i64_w, i32_w]; rfl
        refine pz_ 4 116 ba16_67 HT_ ?_
        refine pz_ 8 120 ba16_68 HT_ ?_
        refine pz_ 9 121 ba16_69 HT_ ?_
        refine pu_ 10 122 ba16_70 HT_ ?_
        refine pu_ 11 123 ba16_71 HT_ ?_
        refine pu_ 12 124 ba16_72 HT_ ?_
        refine pu_ 13 125 ba16_73 HT_ ?_
        refine pu_ 14 126 ba16_74 HT_ ?_
        refine pu_ 15 127 ba16_75 HT_ ?_
        refine pu_ 16 128 ba16_76 HT_ ?_
        refine pu_ 17 129 ba16_77 HT_ ?_
        refine pu_ 18 130 ba16_78 HT_ ?_
        refine pu_ 19 131 ba16_79 HT_ ?_
        refine pu_ 20 132 ba16_80 HT_ ?_
        refine pu_ 21 133 ba16_81 HT_ ?_
        refine pu_ 22 134 ba16_82 HT_ ?_
        refine pu_ 23 135 ba16_83 HT_ ?_
        refine pu_ 24 136 ba16_84 HT_ ?_
        refine pu_ 25 137 ba16_85 HT_ ?_
        refine pu_ 26 138 ba16_86 HT_ ?_
        refine pz_ 27 139 ba16_87 HT_ ?_
        refine done_ (done_of HT_.out (by kernel_rfl)) ?_
        try go_wp2
        go_ret
        exact ⟨by first | rfl | (simp [errW_none, errW_some] <;> rfl) | (simp [*, errW_none, errW_some] <;> rfl), bw115_⟩
       rw [if_neg c78] at H
       have c78b0 : ((decide ((rd t523 x9_1) ≥ 0)) != (decide ((t526.length : Int) > 0))) = false := by simpa using c78
       (try (have c78b1 : decide ((decide ((rd t523 x9_1) ≥ 0)) = (decide ((t526.length : Int) > 0))) = true := by simpa using c78))
       (try (have c78b2 : ((decide ((rd t523 x9_1) ≥ 0)) == (decide ((t526.length : Int) > 0))) = true := by simpa using c78))
       (try (have c78b4 : ((decide ((rd t523 x9_1) ≥ 0)) == (decide (0 < t526.length))) = true := by simpa using c78))
       clear c78
       have Hh_ := Aside0.mk H
       clear H
       have p544 : 0 ≤ (x9_1 : Int) := of_decide_eq_true (by first | (with_reducible assumption) | assumption)
       have q544 : x9_1 < (t523.length : Int) := of_decide_eq_true (by first | (with_reducible assumption) | assumption)
       obtain ⟨ad544, e544, hx544_0⟩ := Kd.at_int (Kd.R_reads' HO_8.out).2.2 x9_1 p544 q544
       obtain rfl : ad543 = ad544 := (by injection e544)
       replace p544 := eq_true p544
       replace q544 := eq_true q544
       have H := Hh_.out
       clear Hh_
       by_cases c82 : (rd t523 x9_1) ≥ 0
       rotate_left
       ·rw [if_neg c82] at H
        have c82b0 : decide (0 ≤ (rd t523 x9_1)) = false := decide_eq_false c82
        have c82z : decide (0 < t526.length) = false := (beq_iff_eq.1 c78b4).symm.trans c82b0
        clear c82
        have H' := Aside0.mk H
        clear H
        refine start_ (n := 28) (S := fun w' => w'.cell? (ad543.add (x9_1).toNat) = some (.int .i64 (rd t523 x9_1)) ∧ w'.cell? (ad543.add (x9_1).toNat) = some (.int .i64 (rd t523 x9_1))) (ds := []) ba16_59 (by kernel_rfl) rfl rfl ⟨hx543_0, hx544_0⟩ (fun hHeld => ?_); refine with_tabW laws_FnHops.tab23 laws_FnHops.bits23 (fun HT_ HW_ => ?_)
        generalize wr.drew = w97 at HO_5 HO_6 HO_7 HO_8 HO_10 HO_514001 BK513 HB hx543_0 hx544_0 hHeld ⊢
        refine pz_ 0 112 ba16_60 HT_ ?_
        refine pz_ 1 113 ba16_61 HT_ ?_
        refine pz_ 2 114 ba16_62 HT_ ?_
        refine pz_ 5 117 ba16_63 HT_ ?_
        refine pz_ 6 118 ba16_64 HT_ ?_
        refine pz_ 7 119 ba16_65 HT_ ?_
        refine pt_ 3 115 ba16_66 HT_ HW_ hHeld ?_
        refine pz_ 4 116 ba16_67 HT_ ?_
        refine pz_ 8 120 ba16_68 HT_ ?_
        refine pz_ 9 121 ba16_69 HT_ ?_
        refine pz_ 10 122 ba16_70 HT_ ?_
        refine pz_ 11 123 ba16_71 HT_ ?_
        refine pz_ 12 124 ba16_72 HT_ ?_
        refine pt_ 13 125 ba16_73 HT_ HW_ hHeld ?_
        refine pz_ 14 126 ba16_74 HT_ ?_
        refine pz_ 15 127 ba16_75 HT_ ?_
        refine pu_ 16 128 ba16_76 HT_ ?_
        refine pu_ 17 129 ba16_77 HT_ ?_
        refine pu_ 18 130 ba16_78 HT_ ?_
        refine pu_ 19 131 ba16_79 HT_ ?_
        refine pu_ 20 132 ba16_80 HT_ ?_
        refine pu_ 21 133 ba16_81 HT_ ?_
        refine pu_ 22 134 ba16_82 HT_ ?_
        refine pu_ 23 135 ba16_83 HT_ ?_
        refine pu_ 24 136 ba16_84 HT_ ?_
        refine pu_ 25 137 ba16_85 HT_ ?_
        refine pz_ 26 138 ba16_86 HT_ ?_
        refine pz_ 27 139 ba16_87 HT_ ?_
        refine done_ (done_of HT_.out (by kernel_rfl)) ?_
        try go_wp2
        go_roundg k3
        case measure => have := HK1.out; have := HJ34.out; have := HK3.out; omega
        case rel => exact ⟨(wrap64 (x9_1 + 1)), (by first | rfl | (simp; done) | (simp [*]; done)), H', ⟨by have := HK1.out; have := HJ34.out; have := HK3.out; omega⟩, ⟨by (with_reducible repeat (first | apply Kd.S_alloc | apply Kd.S_drewN | apply Kd.S_drew)); exact Kd.S_mono HO_5.out (fun _ hk => ⟨hk.1, ⟨hk.2.1, hk.2.2.1⟩⟩)⟩, ⟨by (with_reducible repeat (first | apply Kd.S_alloc | apply Kd.S_drewN | apply Kd.S_drew)); exact Kd.S_mono HO_6.out (fun _ hk => ⟨hk.1, ⟨hk.2.1, hk.2.2.1⟩⟩)⟩, ⟨by (with_reducible repeat (first | apply Kd.R_alloc | apply Kd.R_drewN | apply Kd.R_drew)); exact Kd.R_mono HO_7.out (fun _ hk => hk.1)⟩, ⟨by (with_reducible repeat (first | apply Kd.R_alloc | apply Kd.R_drewN | apply Kd.R_drew)); exact Kd.R_mono HO_8.out (fun _ hk => hk.1)⟩, ⟨by (with_reducible repeat (first | apply Kd.R_alloc | apply Kd.R_drewN | apply Kd.R_drew)); exact HO_514001.out⟩, ⟨bx_ BK513⟩, ⟨bw115_⟩⟩
       rw [if_pos c82] at H
       have c82b0 : decide (0 ≤ (rd t523 x9_1)) = true := decide_eq_true c82
       have c82z : decide (0 < t526.length) = true := (beq_iff_eq.1 c78b4).symm.trans c82b0
       clear c82
       replace H := Option.bind_eq_some_iff.mp H
       obtain ⟨t546, A830, H⟩ := H
       have A83 := Aside0.mk A830
       clear A830
       replace H := Option.bind_eq_some_iff.mp H
       obtain ⟨t549, A840, H⟩ := H
       have A84 := Aside0.mk A840
       clear A840
       have Hh_ := Aside0.mk H
       clear H
       have p545 : 0 ≤ (x9_1 : Int) := of_decide_eq_true (by first | (with_reducible assumption) | assumption)
       have q545 : x9_1 < (t523.length : Int) := of_decide_eq_true (by first | (with_reducible assumption) | assumption)
       obtain ⟨ad545, e545, hx545_0⟩ := Kd.at_int (Kd.R_reads' HO_8.out).2.2 x9_1 p545 q545
       obtain rfl : ad543 = ad545 := (by injection e545)
       replace p545 := eq_true p545
       replace q545 := eq_true q545
       refine start_ (n := 28) (S := fun w' => w'.cell? ⟨gb513, 0, none⟩ = some (.int .i64 t508) ∧ w'.cell? ⟨gb513, 1, none⟩ = some (.slice Ao23 t509.length co23) ∧ w'.cell? (ad543.add (x9_1).toNat) = some (.int .i64 (rd t523 x9_1)) ∧ w'.cell? (ad543.add (x9_1).toNat) = some (.int .i64 (rd t523 x9_1)) ∧ w'.cell? (ad543.add (x9_1).toNat) = some (.int .i64 (rd t523 x9_1))) (ds := []) ba16_59 (by kernel_rfl) rfl rfl ⟨(blk_cell BK513.out 0).trans rfl, (blk_cell BK513.out 1).trans rfl, hx543_0, hx544_0, hx545_0⟩ (fun hHeld => ?_); refine with_tabW laws_FnHops.tab23 laws_FnHops.bits23 (fun HT_ HW_ => ?_)
       generalize wr.drew = w87 at HO_5 HO_6 HO_7 HO_8 HO_10 HO_514001 BK513 HB hx543_0 hx544_0 hx545_0 hHeld ⊢
       refine pz_ 0 112 ba16_60 HT_ ?_
       refine pz_ 1 113 ba16_61 HT_ ?_
       refine pz_ 2 114 ba16_62 HT_ ?_
       refine pz_ 5 117 ba16_63 HT_ ?_
       refine pz_ 6 118 ba16_64 HT_ ?_
       refine pz_ 7 119 ba16_65 HT_ ?_
       refine pt_ 3 115 ba16_66 HT_ HW_ hHeld ?_
       refine pz_ 4 116 ba16_67 HT_ ?_
       refine pz_ 8 120 ba16_68 HT_ ?_
       refine pz_ 9 121 ba16_69 HT_ ?_
       refine pz_ 10 122 ba16_70 HT_ ?_
       refine pz_ 11 123 ba16_71 HT_ ?_
       refine pz_ 12 124 ba16_72 HT_ ?_
       refine pt_ 13 125 ba16_73 HT_ HW_ hHeld ?_
       refine pz_ 14 126 ba16_74 HT_ ?_
       refine pz_ 15 127 ba16_75 HT_ ?_
       refine pz_ 17 129 ba16_88 HT_ ?_
       refine pz_ 18 130 ba16_89 HT_ ?_
       refine pz_ 19 131 ba16_90 HT_ ?_
       refine pz_ 21 133 ba16_91 HT_ ?_
       refine pz_ 23 135 ba16_92 HT_ ?_
       refine pt_ 16 128 ba16_93 HT_ HW_ hHeld ?_
       refine pt_ 20 132 ba16_94 HT_ HW_ hHeld ?_
       refine one_ (i := 22) (N := some 134) ba16_83 rfl rfl (one_of HT_.out (by kernel_rfl)) (by decide) (fun K hK => ?_)
       refine gz_ Try.func34 #[.agg #[.int .i64 t508, .slice Ao23 t509.length co23], .int .i64 (rd t523 x9_1), .int .i64 x9_1] ?_
       with_reducible refine (impl_HopsTo.calls k3 t508 _ _ t509 (rd t523 x9_1) x9_1 t546 _ ?side1 ?side2 A83.out).mono ?_
       (case side1 => exact rc_ HO_514001)
       (case side2 => exact (Kd.R_reads' HO_514001.out).2.1)
       rintro e w89 ⟨v547, rfl, ho0, hb⟩
       have HS2_ := (hb.cell (World.block_lt_of_cell? _ _ (hHeld.2.2.1))).trans (hHeld.2.2.1)
       have HS3_ := (hb.cell (World.block_lt_of_cell? _ _ (hHeld.2.2.2.1))).trans (hHeld.2.2.2.1)
       have HS4_ := (hb.cell (World.block_lt_of_cell? _ _ (hHeld.2.2.2.2))).trans (hHeld.2.2.2.2)
       refine ⟨_, rfl, ?_⟩
       have HO548 := Aside0.mk (Kd.R_lower (Kd.R_new' (Kd.R_new' (Kd.R_new' ho0 (Kd.R_lt (hd_ HO_7))) (Kd.R_lt (hd_ HO_8))) (Kd.R_lt (hd_ HO_10))) (bz_ HB))
       replace HO_5 := Aside0.mk (Kd.S_elder' (by (with_reducible repeat (first | apply Kd.S_alloc | apply Kd.S_drewN | apply Kd.S_drew)); exact HO_5.out) (Kd.R_base ho0) hb)
       replace HO_6 := Aside0.mk (Kd.S_elder' (by (with_reducible repeat (first | apply Kd.S_alloc | apply Kd.S_drewN | apply Kd.S_drew)); exact HO_6.out) (Kd.R_base ho0) hb)
       replace HO_514001 := rb_ HO_514001 hb
       replace HO_7 := Aside0.mk (Kd.R_elder' (hd_ HO_7) (Kd.R_base ho0) hb)
       replace HO_8 := Aside0.mk (Kd.R_elder' (hd_ HO_8) (Kd.R_base ho0) hb)
       replace HO_10 := Aside0.mk (Kd.R_elder' (hd_ HO_10) (Kd.R_base ho0) hb)
       replace BK513 := ab_ BK513 hb
       replace HB := at_ HB hb
       (try clear hb)
       (try clear hb2)
       (try clear hk)
       (try clear hi)
       (try clear ho0)
       obtain ⟨Ao90, co90, eo90⟩ := Kd.R_slice HO548.out
       (first | subst eo90 | (injection eo90 with f1_ f2_ f3_; have f4_ := f1_.symm; have f5_ := f3_.symm; clear f1_ f2_ f3_; subst f4_; subst f5_))
       refine hK.out _ _ ⟨(blk_cell BK513.out 0).trans rfl, (blk_cell BK513.out 1).trans rfl, HS2_, HS3_, HS4_⟩ (fun hHeld => ?_)
       clear hK K
       refine nz_ 134 ?_
       refine one_ (i := 24) (N := some 136) ba16_84 rfl rfl (one_of HT_.out (by kernel_rfl)) (by decide) (fun K hK => ?_)
       refine gz_ Try.func35 #[.slice Ao90 t546.length co90, .int .i64 x9_1] ?_
       with_reducible refine (laws_within.calls k3 _ _ t546 x9_1 t549 _ ?side1 ?side2 A84.out).mono ?_
       (case side1 => exact rc_ HO548)
       (case side2 => exact (Kd.R_reads' HO548.out).2.1)
       rintro e w' ⟨rfl, ⟨nd, rfl⟩⟩
       refine ⟨_, rfl, ?_⟩
       refine hK.out _ _ ⟨(blk_cell BK513.out 0).trans rfl, (blk_cell BK513.out 1).trans rfl, hHeld.2.2.1, hHeld.2.2.2.1, hHeld.2.2.2.2⟩ (fun hHeld => ?_)
       clear hK K
       refine nz_ 136 ?_
       have H := Hh_.out
       clear Hh_
       by_cases c85 : t549 = true
       rotate_left
       ·replace c85 := Bool.eq_false_iff.mpr c85
        subst c85
        rw [if_neg (show ¬ (false = true) by decide)] at H
        obtain rfl := Option.some.inj H
        refine pz_ 25 137 ba16_85 HT_ ?_
        refine pz_ 26 138 ba16_86 HT_ ?_
        refine pz_ 27 139 ba16_87 HT_ ?_
        refine done_ (done_of HT_.out (by kernel_rfl)) ?_
        try go_wp2
        go_ret
        exact ⟨by first | rfl | (simp [errW_none, errW_some] <;> rfl) | (simp [*, errW_none, errW_some] <;> rfl), bw115_⟩
       subst c85
       rw [if_pos rfl] at H
       have H' := Aside0.mk H
       clear H
       refine pz_ 25 137 ba16_85 HT_ ?_
       refine pz_ 26 138 ba16_86 HT_ ?_
       refine pz_ 27 139 ba16_87 HT_ ?_
       refine done_ (done_of HT_.out (by kernel_rfl)) ?_
       try go_wp2
       go_roundg k3
       case measure => have := HK1.out; have := HJ34.out; have := HK3.out; omega
       case rel => exact ⟨(wrap64 (x9_1 + 1)), (by first | rfl | (simp; done) | (simp [*]; done)), H', ⟨by have := HK1.out; have := HJ34.out; have := HK3.out; omega⟩, ⟨by (with_reducible repeat (first | apply Kd.S_alloc | apply Kd.S_drewN | apply Kd.S_drew)); exact Kd.S_mono HO_5.out (fun _ hk => ⟨hk.1.1, ⟨hk.1.2.1, hk.1.2.2.1⟩⟩)⟩, ⟨by (with_reducible repeat (first | apply Kd.S_alloc | apply Kd.S_drewN | apply Kd.S_drew)); exact Kd.S_mono HO_6.out (fun _ hk => ⟨hk.1.1, ⟨hk.1.2.1, hk.1.2.2.1⟩⟩)⟩, ⟨by (with_reducible repeat (first | apply Kd.R_alloc | apply Kd.R_drewN | apply Kd.R_drew)); exact Kd.R_mono HO_7.out (fun _ hk => hk.1.1)⟩, ⟨by (with_reducible repeat (first | apply Kd.R_alloc | apply Kd.R_drewN | apply Kd.R_drew)); exact Kd.R_mono HO_8.out (fun _ hk => hk.1.1)⟩, ⟨by (with_reducible repeat (first | apply Kd.R_alloc | apply Kd.R_drewN | apply Kd.R_drew)); exact HO_514001.out⟩, ⟨bx_ BK513⟩, ⟨bw115_⟩⟩

/-- THE ONE PURE STATEMENT of laws_FnHops: yours. -/
def laws_FnHops.Pure : Prop := ∀ (l0 : List Int), l0.length ≤ maxLen → l0.length * 1 ≤ 140737488351232 → (∀ x ∈ l0, (Lit.int .u8 x).wf = true) → ∃ k, laws_FnHops.f k l0 = some true
theorem laws_FnHops.walk (P : laws_FnHops.Pure) (a0 : Option Addr) (len0 cap0 : Nat) (z0 : List Int) (w : World) (w0 : (a0 = none ∧ len0 = 0 ∧ cap0 = 0 ∧ z0 = []) ∨ ∃ x, a0 = some x ∧ len0 ≤ cap0 ∧ cap0 ≤ maxLen ∧ z0.length = cap0 ∧ (∀ i, i < z0.length → w.cell? (x.add i) = some (.int .u8 (z0.getD i 0))) ∧ ∀ n ∈ z0, (Lit.int .u8 n).wf = true) (y0 : len0 * 1 ≤ 140737488351232) :
  Calls Try.prog 7 #[.slice a0 len0 cap0] w fun e w' => e = .returned (.bool true) ∧ Below w.heap.size w w' := by
 obtain ⟨l0, rfl, hr0, hm0, hw0, hc0⟩ := ReadsInt.ofRowC w0
 obtain ⟨k, h⟩ := P l0 hm0 y0 hw0
 refine (laws_FnHops.calls k _ _ l0 true w (Kd.C_of_reads (d := (0 : Int)) (h1 := fun _ => rfl) hr0) hc0 h).mono ?_
 rintro e w' ⟨rfl, hd⟩
 exact ⟨rfl, hd⟩

end Go.Proofs.Ythmahcohcphljaa.QFnHops
