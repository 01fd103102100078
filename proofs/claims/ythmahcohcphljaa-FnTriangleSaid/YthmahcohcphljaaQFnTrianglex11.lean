/- Contracts of functions that the law reaches: what each call returns and what it leaves in memory. Made by this session over the print of the kit. -/
import Derived.Test.YthmahcohcphljaaQFnTrianglex0
import Derived.Test.YthmahcohcphljaaQFnTrianglex1
import Derived.Test.YthmahcohcphljaaQFnTrianglex5
import Derived.Test.YthmahcohcphljaaQFnTrianglex6
import Derived.Test.YthmahcohcphljaaQFnTrianglex8
import Derived.Test.YthmahcohcphljaaQFnTrianglex10
namespace Go.Proofs.Ythmahcohcphljaa.QFnTriangle
open Go.RowKit Go.Proofs.YthmahcohcphljaaT.PrintWords Go.Proofs.YthmahcohcphljaaT.PrintLast Go.Proofs.YthmahcohcphljaaT.PrintMore
attribute [local go_sem] max2_int min2_int max_two min_two max_three min_three max_four min_four   -- for this text's walks alone
set_option linter.unusedVariables false
set_option linter.unusedSimpArgs false
abbrev tb11 : Bool := true
abbrev fb11 : Bool := false
def ba11_0 : Array Bool := #[fb11,fb11,fb11,fb11,fb11,fb11,fb11,fb11,fb11,fb11,fb11,fb11,fb11,fb11,fb11,fb11,fb11,fb11,fb11,fb11]
def ba11_1 : Array Bool := #[tb11,fb11,fb11,fb11,fb11,fb11,fb11,fb11,fb11,fb11,fb11,fb11,fb11,fb11,fb11,fb11,fb11,fb11,fb11,fb11]
def ba11_2 : Array Bool := #[tb11,tb11,fb11,fb11,fb11,fb11,fb11,fb11,fb11,fb11,fb11,fb11,fb11,fb11,fb11,fb11,fb11,fb11,fb11,fb11]
def ba11_3 : Array Bool := #[tb11,tb11,tb11,fb11,fb11,fb11,fb11,fb11,fb11,fb11,fb11,fb11,fb11,fb11,fb11,fb11,fb11,fb11,fb11,fb11]
def ba11_4 : Array Bool := #[tb11,tb11,tb11,fb11,tb11,fb11,fb11,fb11,fb11,fb11,fb11,fb11,fb11,fb11,fb11,fb11,fb11,fb11,fb11,fb11]
def ba11_5 : Array Bool := #[tb11,tb11,tb11,fb11,tb11,tb11,fb11,fb11,fb11,fb11,fb11,fb11,fb11,fb11,fb11,fb11,fb11,fb11,fb11,fb11]
def ba11_6 : Array Bool := #[tb11,tb11,tb11,fb11,tb11,tb11,tb11,fb11,fb11,fb11,fb11,fb11,fb11,fb11,fb11,fb11,fb11,fb11,fb11,fb11]
def ba11_7 : Array Bool := #[tb11,tb11,tb11,tb11,tb11,tb11,tb11,fb11,fb11,fb11,fb11,fb11,fb11,fb11,fb11,fb11,fb11,fb11,fb11,fb11]
def ba11_8 : Array Bool := #[tb11,tb11,tb11,tb11,tb11,tb11,tb11,tb11,fb11,fb11,fb11,fb11,fb11,fb11,fb11,fb11,fb11,fb11,fb11,fb11]
def ba11_9 : Array Bool := #[tb11,tb11,tb11,tb11,tb11,tb11,tb11,tb11,tb11,fb11,fb11,fb11,fb11,fb11,fb11,fb11,fb11,fb11,fb11,fb11]
def ba11_10 : Array Bool := #[tb11,tb11,tb11,tb11,tb11,tb11,tb11,tb11,tb11,tb11,fb11,fb11,fb11,fb11,fb11,fb11,fb11,fb11,fb11,fb11]
def ba11_11 : Array Bool := #[tb11,tb11,tb11,tb11,tb11,tb11,tb11,tb11,tb11,tb11,tb11,fb11,fb11,fb11,fb11,fb11,fb11,fb11,fb11,fb11]
def ba11_12 : Array Bool := #[tb11,tb11,tb11,tb11,tb11,tb11,tb11,tb11,tb11,tb11,tb11,tb11,fb11,fb11,fb11,fb11,fb11,fb11,fb11,fb11]
def ba11_13 : Array Bool := #[tb11,tb11,tb11,tb11,tb11,tb11,tb11,tb11,tb11,tb11,tb11,tb11,tb11,fb11,fb11,fb11,fb11,fb11,fb11,fb11]
def ba11_14 : Array Bool := #[tb11,tb11,tb11,tb11,tb11,tb11,tb11,tb11,tb11,tb11,tb11,tb11,tb11,tb11,fb11,fb11,fb11,fb11,fb11,fb11]
def ba11_15 : Array Bool := #[tb11,tb11,tb11,tb11,tb11,tb11,tb11,tb11,tb11,tb11,tb11,tb11,tb11,tb11,fb11,tb11,fb11,fb11,fb11,fb11]
def ba11_16 : Array Bool := #[tb11,tb11,tb11,tb11,tb11,tb11,tb11,tb11,tb11,tb11,tb11,tb11,tb11,tb11,tb11,tb11,fb11,fb11,fb11,fb11]
def ba11_17 : Array Bool := #[tb11,tb11,tb11,tb11,tb11,tb11,tb11,tb11,tb11,tb11,tb11,tb11,tb11,tb11,tb11,tb11,tb11,fb11,fb11,fb11]
def ba11_18 : Array Bool := #[tb11,tb11,tb11,tb11,tb11,tb11,tb11,tb11,tb11,tb11,tb11,tb11,tb11,tb11,tb11,tb11,tb11,tb11,fb11,fb11]
def ba11_19 : Array Bool := #[tb11,tb11,tb11,tb11,tb11,tb11,tb11,tb11,tb11,tb11,tb11,tb11,tb11,tb11,tb11,tb11,tb11,tb11,tb11,fb11]
def ba11_20 : Array Bool := #[tb11,tb11,tb11,tb11,tb11,tb11,tb11,tb11,tb11,tb11,tb11,tb11,tb11,tb11,tb11,tb11,tb11,tb11,tb11,tb11]
def ba11_21 : Array Bool := #[tb11,tb11,tb11,tb11,tb11,tb11,tb11,tb11,tb11,tb11,tb11,tb11,tb11,tb11,tb11,fb11,fb11,fb11,fb11,fb11]
def ba11_22 : Array Bool := #[fb11,fb11,fb11,fb11,fb11,fb11,fb11,fb11,fb11,fb11,fb11,fb11]
def ba11_23 : Array Bool := #[fb11,tb11,fb11,fb11,fb11,fb11,fb11,fb11,fb11,fb11,fb11,fb11]
def ba11_24 : Array Bool := #[fb11,tb11,tb11,fb11,fb11,fb11,fb11,fb11,fb11,fb11,fb11,fb11]
def ba11_25 : Array Bool := #[fb11,tb11,tb11,fb11,tb11,fb11,fb11,fb11,fb11,fb11,fb11,fb11]
def ba11_26 : Array Bool := #[fb11,tb11,tb11,fb11,tb11,tb11,fb11,fb11,fb11,fb11,fb11,fb11]
def ba11_27 : Array Bool := #[fb11,tb11,tb11,fb11,tb11,tb11,tb11,fb11,fb11,fb11,fb11,fb11]
def ba11_28 : Array Bool := #[fb11,tb11,tb11,fb11,tb11,tb11,tb11,fb11,tb11,fb11,fb11,fb11]
def ba11_29 : Array Bool := #[tb11,tb11,tb11,fb11,tb11,tb11,tb11,fb11,tb11,fb11,fb11,fb11]
def ba11_30 : Array Bool := #[tb11,tb11,tb11,fb11,tb11,tb11,tb11,tb11,tb11,fb11,fb11,fb11]
def ba11_31 : Array Bool := #[tb11,tb11,tb11,fb11,tb11,tb11,tb11,tb11,tb11,tb11,fb11,fb11]
def ba11_32 : Array Bool := #[tb11,tb11,tb11,fb11,tb11,tb11,tb11,tb11,tb11,tb11,tb11,fb11]
def ba11_33 : Array Bool := #[tb11,tb11,tb11,tb11,tb11,tb11,tb11,tb11,tb11,tb11,tb11,fb11]
def ba11_34 : Array Bool := #[tb11,tb11,tb11,tb11,tb11,tb11,tb11,tb11,tb11,tb11,tb11,tb11]
def ba11_35 : Array Bool := #[fb11,fb11,fb11,fb11,fb11,fb11,fb11,fb11,fb11,fb11,fb11,fb11,fb11,fb11,fb11,fb11,fb11,fb11,fb11,fb11,fb11,fb11,fb11,fb11,fb11,fb11,fb11,fb11,fb11,fb11,fb11,fb11,fb11,fb11,fb11,fb11,fb11,fb11,fb11,fb11,fb11,fb11,fb11]
def ba11_36 : Array Bool := #[tb11,fb11,fb11,fb11,fb11,fb11,fb11,fb11,fb11,fb11,fb11,fb11,fb11,fb11,fb11,fb11,fb11,fb11,fb11,fb11,fb11,fb11,fb11,fb11,fb11,fb11,fb11,fb11,fb11,fb11,fb11,fb11,fb11,fb11,fb11,fb11,fb11,fb11,fb11,fb11,fb11,fb11,fb11]
def ba11_37 : Array Bool := #[tb11,tb11,fb11,fb11,fb11,fb11,fb11,fb11,fb11,fb11,fb11,fb11,fb11,fb11,fb11,fb11,fb11,fb11,fb11,fb11,fb11,fb11,fb11,fb11,fb11,fb11,fb11,fb11,fb11,fb11,fb11,fb11,fb11,fb11,fb11,fb11,fb11,fb11,fb11,fb11,fb11,fb11,fb11]
def ba11_38 : Array Bool := #[tb11,tb11,tb11,fb11,fb11,fb11,fb11,fb11,fb11,fb11,fb11,fb11,fb11,fb11,fb11,fb11,fb11,fb11,fb11,fb11,fb11,fb11,fb11,fb11,fb11,fb11,fb11,fb11,fb11,fb11,fb11,fb11,fb11,fb11,fb11,fb11,fb11,fb11,fb11,fb11,fb11,fb11,fb11]
def ba11_39 : Array Bool := #[tb11,tb11,tb11,fb11,tb11,fb11,fb11,fb11,fb11,fb11,fb11,fb11,fb11,fb11,fb11,fb11,fb11,fb11,fb11,fb11,fb11,fb11,fb11,fb11,fb11,fb11,fb11,fb11,fb11,fb11,fb11,fb11,fb11,fb11,fb11,fb11,fb11,fb11,fb11,fb11,fb11,fb11,fb11]
def ba11_40 : Array Bool := #[tb11,tb11,tb11,tb11,tb11,fb11,fb11,fb11,fb11,fb11,fb11,fb11,fb11,fb11,fb11,fb11,fb11,fb11,fb11,fb11,fb11,fb11,fb11,fb11,fb11,fb11,fb11,fb11,fb11,fb11,fb11,fb11,fb11,fb11,fb11,fb11,fb11,fb11,fb11,fb11,fb11,fb11,fb11]
def ba11_41 : Array Bool := #[tb11,tb11,tb11,tb11,tb11,tb11,fb11,fb11,fb11,fb11,fb11,fb11,fb11,fb11,fb11,fb11,fb11,fb11,fb11,fb11,fb11,fb11,fb11,fb11,fb11,fb11,fb11,fb11,fb11,fb11,fb11,fb11,fb11,fb11,fb11,fb11,fb11,fb11,fb11,fb11,fb11,fb11,fb11]
def ba11_42 : Array Bool := #[tb11,tb11,tb11,tb11,tb11,tb11,tb11,fb11,fb11,fb11,fb11,fb11,fb11,fb11,fb11,fb11,fb11,fb11,fb11,fb11,fb11,fb11,fb11,fb11,fb11,fb11,fb11,fb11,fb11,fb11,fb11,fb11,fb11,fb11,fb11,fb11,fb11,fb11,fb11,fb11,fb11,fb11,fb11]
def ba11_43 : Array Bool := #[tb11,tb11,tb11,tb11,tb11,tb11,tb11,tb11,fb11,fb11,fb11,fb11,fb11,fb11,fb11,fb11,fb11,fb11,fb11,fb11,fb11,fb11,fb11,fb11,fb11,fb11,fb11,fb11,fb11,fb11,fb11,fb11,fb11,fb11,fb11,fb11,fb11,fb11,fb11,fb11,fb11,fb11,fb11]
def ba11_44 : Array Bool := #[tb11,tb11,tb11,tb11,tb11,tb11,tb11,tb11,tb11,fb11,fb11,fb11,fb11,fb11,fb11,fb11,fb11,fb11,fb11,fb11,fb11,fb11,fb11,fb11,fb11,fb11,fb11,fb11,fb11,fb11,fb11,fb11,fb11,fb11,fb11,fb11,fb11,fb11,fb11,fb11,fb11,fb11,fb11]
def ba11_45 : Array Bool := #[tb11,tb11,tb11,tb11,tb11,tb11,tb11,tb11,tb11,tb11,fb11,fb11,fb11,fb11,fb11,fb11,fb11,fb11,fb11,fb11,fb11,fb11,fb11,fb11,fb11,fb11,fb11,fb11,fb11,fb11,fb11,fb11,fb11,fb11,fb11,fb11,fb11,fb11,fb11,fb11,fb11,fb11,fb11]
def ba11_46 : Array Bool := #[tb11,tb11,tb11,tb11,tb11,tb11,tb11,tb11,tb11,tb11,tb11,fb11,fb11,fb11,fb11,fb11,fb11,fb11,fb11,fb11,fb11,fb11,fb11,fb11,fb11,fb11,fb11,fb11,fb11,fb11,fb11,fb11,fb11,fb11,fb11,fb11,fb11,fb11,fb11,fb11,fb11,fb11,fb11]
def ba11_47 : Array Bool := #[tb11,tb11,tb11,tb11,tb11,tb11,tb11,tb11,tb11,tb11,tb11,tb11,fb11,fb11,fb11,fb11,fb11,fb11,fb11,fb11,fb11,fb11,fb11,fb11,fb11,fb11,fb11,fb11,fb11,fb11,fb11,fb11,fb11,fb11,fb11,fb11,fb11,fb11,fb11,fb11,fb11,fb11,fb11]
def ba11_48 : Array Bool := #[tb11,tb11,tb11,tb11,tb11,tb11,tb11,tb11,tb11,tb11,tb11,tb11,fb11,tb11,fb11,fb11,fb11,fb11,fb11,fb11,fb11,fb11,fb11,fb11,fb11,fb11,fb11,fb11,fb11,fb11,fb11,fb11,fb11,fb11,fb11,fb11,fb11,fb11,fb11,fb11,fb11,fb11,fb11]
def ba11_49 : Array Bool := #[tb11,tb11,tb11,tb11,tb11,tb11,tb11,tb11,tb11,tb11,tb11,tb11,tb11,tb11,fb11,fb11,fb11,fb11,fb11,fb11,fb11,fb11,fb11,fb11,fb11,fb11,fb11,fb11,fb11,fb11,fb11,fb11,fb11,fb11,fb11,fb11,fb11,fb11,fb11,fb11,fb11,fb11,fb11]
def ba11_50 : Array Bool := #[tb11,tb11,tb11,tb11,tb11,tb11,tb11,tb11,tb11,tb11,tb11,tb11,tb11,tb11,tb11,fb11,fb11,fb11,fb11,fb11,fb11,fb11,fb11,fb11,fb11,fb11,fb11,fb11,fb11,fb11,fb11,fb11,fb11,fb11,fb11,fb11,fb11,fb11,fb11,fb11,fb11,fb11,fb11]
def ba11_51 : Array Bool := #[tb11,tb11,tb11,tb11,tb11,tb11,tb11,tb11,tb11,tb11,tb11,tb11,tb11,tb11,tb11,tb11,fb11,fb11,fb11,fb11,fb11,fb11,fb11,fb11,fb11,fb11,fb11,fb11,fb11,fb11,fb11,fb11,fb11,fb11,fb11,fb11,fb11,fb11,fb11,fb11,fb11,fb11,fb11]
def ba11_52 : Array Bool := #[tb11,tb11,tb11,tb11,tb11,tb11,tb11,tb11,tb11,tb11,tb11,tb11,tb11,tb11,tb11,tb11,tb11,fb11,fb11,fb11,fb11,fb11,fb11,fb11,fb11,fb11,fb11,fb11,fb11,fb11,fb11,fb11,fb11,fb11,fb11,fb11,fb11,fb11,fb11,fb11,fb11,fb11,fb11]
def ba11_53 : Array Bool := #[tb11,tb11,tb11,tb11,tb11,tb11,tb11,tb11,tb11,tb11,tb11,tb11,tb11,tb11,tb11,tb11,tb11,tb11,fb11,fb11,fb11,fb11,fb11,fb11,fb11,fb11,fb11,fb11,fb11,fb11,fb11,fb11,fb11,fb11,fb11,fb11,fb11,fb11,fb11,fb11,fb11,fb11,fb11]
def ba11_54 : Array Bool := #[tb11,tb11,tb11,tb11,tb11,tb11,tb11,tb11,tb11,tb11,tb11,tb11,tb11,tb11,tb11,tb11,tb11,tb11,tb11,fb11,fb11,fb11,fb11,fb11,fb11,fb11,fb11,fb11,fb11,fb11,fb11,fb11,fb11,fb11,fb11,fb11,fb11,fb11,fb11,fb11,fb11,fb11,fb11]
def ba11_55 : Array Bool := #[tb11,tb11,tb11,tb11,tb11,tb11,tb11,tb11,tb11,tb11,tb11,tb11,tb11,tb11,tb11,tb11,tb11,tb11,tb11,tb11,fb11,fb11,fb11,fb11,fb11,fb11,fb11,fb11,fb11,fb11,fb11,fb11,fb11,fb11,fb11,fb11,fb11,fb11,fb11,fb11,fb11,fb11,fb11]
def ba11_56 : Array Bool := #[tb11,tb11,tb11,tb11,tb11,tb11,tb11,tb11,tb11,tb11,tb11,tb11,tb11,tb11,tb11,tb11,tb11,tb11,tb11,tb11,tb11,fb11,fb11,fb11,fb11,fb11,fb11,fb11,fb11,fb11,fb11,fb11,fb11,fb11,fb11,fb11,fb11,fb11,fb11,fb11,fb11,fb11,fb11]
def ba11_57 : Array Bool := #[tb11,tb11,tb11,tb11,tb11,tb11,tb11,tb11,tb11,tb11,tb11,tb11,tb11,tb11,tb11,tb11,tb11,tb11,tb11,tb11,tb11,tb11,fb11,fb11,fb11,fb11,fb11,fb11,fb11,fb11,fb11,fb11,fb11,fb11,fb11,fb11,fb11,fb11,fb11,fb11,fb11,fb11,fb11]
def ba11_58 : Array Bool := #[tb11,tb11,tb11,tb11,tb11,tb11,tb11,tb11,tb11,tb11,tb11,tb11,tb11,tb11,tb11,tb11,tb11,tb11,tb11,tb11,tb11,tb11,fb11,tb11,fb11,fb11,fb11,fb11,fb11,fb11,fb11,fb11,fb11,fb11,fb11,fb11,fb11,fb11,fb11,fb11,fb11,fb11,fb11]
def ba11_59 : Array Bool := #[tb11,tb11,tb11,tb11,tb11,tb11,tb11,tb11,tb11,tb11,tb11,tb11,tb11,tb11,tb11,tb11,tb11,tb11,tb11,tb11,tb11,tb11,fb11,tb11,fb11,fb11,tb11,fb11,fb11,fb11,fb11,fb11,fb11,fb11,fb11,fb11,fb11,fb11,fb11,fb11,fb11,fb11,fb11]
def ba11_60 : Array Bool := #[tb11,tb11,tb11,tb11,tb11,tb11,tb11,tb11,tb11,tb11,tb11,tb11,tb11,tb11,tb11,tb11,tb11,tb11,tb11,tb11,tb11,tb11,fb11,tb11,fb11,fb11,tb11,tb11,fb11,fb11,fb11,fb11,fb11,fb11,fb11,fb11,fb11,fb11,fb11,fb11,fb11,fb11,fb11]
def ba11_61 : Array Bool := #[tb11,tb11,tb11,tb11,tb11,tb11,tb11,tb11,tb11,tb11,tb11,tb11,tb11,tb11,tb11,tb11,tb11,tb11,tb11,tb11,tb11,tb11,fb11,tb11,fb11,fb11,tb11,tb11,tb11,fb11,fb11,fb11,fb11,fb11,fb11,fb11,fb11,fb11,fb11,fb11,fb11,fb11,fb11]
def ba11_62 : Array Bool := #[tb11,tb11,tb11,tb11,tb11,tb11,tb11,tb11,tb11,tb11,tb11,tb11,tb11,tb11,tb11,tb11,tb11,tb11,tb11,tb11,tb11,tb11,fb11,tb11,fb11,fb11,tb11,tb11,tb11,fb11,tb11,fb11,fb11,fb11,fb11,fb11,fb11,fb11,fb11,fb11,fb11,fb11,fb11]
def ba11_63 : Array Bool := #[tb11,tb11,tb11,tb11,tb11,tb11,tb11,tb11,tb11,tb11,tb11,tb11,tb11,tb11,tb11,tb11,tb11,tb11,tb11,tb11,tb11,tb11,fb11,tb11,fb11,fb11,tb11,tb11,tb11,fb11,tb11,fb11,fb11,tb11,fb11,fb11,fb11,fb11,fb11,fb11,fb11,fb11,fb11]
def ba11_64 : Array Bool := #[tb11,tb11,tb11,tb11,tb11,tb11,tb11,tb11,tb11,tb11,tb11,tb11,tb11,tb11,tb11,tb11,tb11,tb11,tb11,tb11,tb11,tb11,fb11,tb11,fb11,fb11,tb11,tb11,tb11,fb11,tb11,fb11,fb11,tb11,tb11,fb11,fb11,fb11,fb11,fb11,fb11,fb11,fb11]
def ba11_65 : Array Bool := #[tb11,tb11,tb11,tb11,tb11,tb11,tb11,tb11,tb11,tb11,tb11,tb11,tb11,tb11,tb11,tb11,tb11,tb11,tb11,tb11,tb11,tb11,fb11,tb11,fb11,fb11,tb11,tb11,tb11,fb11,tb11,fb11,fb11,tb11,tb11,tb11,fb11,fb11,fb11,fb11,fb11,fb11,fb11]
def ba11_66 : Array Bool := #[tb11,tb11,tb11,tb11,tb11,tb11,tb11,tb11,tb11,tb11,tb11,tb11,tb11,tb11,tb11,tb11,tb11,tb11,tb11,tb11,tb11,tb11,fb11,tb11,fb11,fb11,tb11,tb11,tb11,fb11,tb11,fb11,fb11,tb11,tb11,tb11,fb11,tb11,fb11,fb11,fb11,fb11,fb11]
def ba11_67 : Array Bool := #[tb11,tb11,tb11,tb11,tb11,tb11,tb11,tb11,tb11,tb11,tb11,tb11,tb11,tb11,tb11,tb11,tb11,tb11,tb11,tb11,tb11,tb11,tb11,tb11,fb11,fb11,tb11,tb11,tb11,fb11,tb11,fb11,fb11,tb11,tb11,tb11,fb11,tb11,fb11,fb11,fb11,fb11,fb11]
def ba11_68 : Array Bool := #[tb11,tb11,tb11,tb11,tb11,tb11,tb11,tb11,tb11,tb11,tb11,tb11,tb11,tb11,tb11,tb11,tb11,tb11,tb11,tb11,tb11,tb11,tb11,tb11,tb11,fb11,tb11,tb11,tb11,fb11,tb11,fb11,fb11,tb11,tb11,tb11,fb11,tb11,fb11,fb11,fb11,fb11,fb11]
def ba11_69 : Array Bool := #[tb11,tb11,tb11,tb11,tb11,tb11,tb11,tb11,tb11,tb11,tb11,tb11,tb11,tb11,tb11,tb11,tb11,tb11,tb11,tb11,tb11,tb11,tb11,tb11,tb11,tb11,tb11,tb11,tb11,fb11,tb11,fb11,fb11,tb11,tb11,tb11,fb11,tb11,fb11,fb11,fb11,fb11,fb11]
def ba11_70 : Array Bool := #[tb11,tb11,tb11,tb11,tb11,tb11,tb11,tb11,tb11,tb11,tb11,tb11,tb11,tb11,tb11,tb11,tb11,tb11,tb11,tb11,tb11,tb11,tb11,tb11,tb11,tb11,tb11,tb11,tb11,tb11,tb11,fb11,fb11,tb11,tb11,tb11,fb11,tb11,fb11,fb11,fb11,fb11,fb11]
def ba11_71 : Array Bool := #[tb11,tb11,tb11,tb11,tb11,tb11,tb11,tb11,tb11,tb11,tb11,tb11,tb11,tb11,tb11,tb11,tb11,tb11,tb11,tb11,tb11,tb11,tb11,tb11,tb11,tb11,tb11,tb11,tb11,tb11,tb11,tb11,fb11,tb11,tb11,tb11,fb11,tb11,fb11,fb11,fb11,fb11,fb11]
def ba11_72 : Array Bool := #[tb11,tb11,tb11,tb11,tb11,tb11,tb11,tb11,tb11,tb11,tb11,tb11,tb11,tb11,tb11,tb11,tb11,tb11,tb11,tb11,tb11,tb11,tb11,tb11,tb11,tb11,tb11,tb11,tb11,tb11,tb11,tb11,tb11,tb11,tb11,tb11,fb11,tb11,fb11,fb11,fb11,fb11,fb11]
def ba11_73 : Array Bool := #[tb11,tb11,tb11,tb11,tb11,tb11,tb11,tb11,tb11,tb11,tb11,tb11,tb11,tb11,tb11,tb11,tb11,tb11,tb11,tb11,tb11,tb11,tb11,tb11,tb11,tb11,tb11,tb11,tb11,tb11,tb11,tb11,tb11,tb11,tb11,tb11,tb11,tb11,fb11,fb11,fb11,fb11,fb11]
def ba11_74 : Array Bool := #[tb11,tb11,tb11,tb11,tb11,tb11,tb11,tb11,tb11,tb11,tb11,tb11,tb11,tb11,tb11,tb11,tb11,tb11,tb11,tb11,tb11,tb11,tb11,tb11,tb11,tb11,tb11,tb11,tb11,tb11,tb11,tb11,tb11,tb11,tb11,tb11,tb11,tb11,tb11,fb11,fb11,fb11,fb11]
def ba11_75 : Array Bool := #[tb11,tb11,tb11,tb11,tb11,tb11,tb11,tb11,tb11,tb11,tb11,tb11,tb11,tb11,tb11,tb11,tb11,tb11,tb11,tb11,tb11,tb11,tb11,tb11,tb11,tb11,tb11,tb11,tb11,tb11,tb11,tb11,tb11,tb11,tb11,tb11,tb11,tb11,tb11,tb11,fb11,fb11,fb11]
def ba11_76 : Array Bool := #[tb11,tb11,tb11,tb11,tb11,tb11,tb11,tb11,tb11,tb11,tb11,tb11,tb11,tb11,tb11,tb11,tb11,tb11,tb11,tb11,tb11,tb11,tb11,tb11,tb11,tb11,tb11,tb11,tb11,tb11,tb11,tb11,tb11,tb11,tb11,tb11,tb11,tb11,tb11,tb11,tb11,fb11,fb11]
def ba11_77 : Array Bool := #[tb11,tb11,tb11,tb11,tb11,tb11,tb11,tb11,tb11,tb11,tb11,tb11,tb11,tb11,tb11,tb11,tb11,tb11,tb11,tb11,tb11,tb11,tb11,tb11,tb11,tb11,tb11,tb11,tb11,tb11,tb11,tb11,tb11,tb11,tb11,tb11,tb11,tb11,tb11,tb11,tb11,tb11,fb11]
def ba11_78 : Array Bool := #[tb11,tb11,tb11,tb11,tb11,tb11,tb11,tb11,tb11,tb11,tb11,tb11,tb11,tb11,tb11,tb11,tb11,tb11,tb11,tb11,tb11,tb11,tb11,tb11,tb11,tb11,tb11,tb11,tb11,tb11,tb11,tb11,tb11,tb11,tb11,tb11,tb11,tb11,tb11,tb11,tb11,tb11,tb11]
def ba11_79 : Array Bool := #[tb11,tb11,tb11,tb11,tb11,tb11,tb11,tb11,tb11,tb11,tb11,tb11,tb11,tb11,tb11,tb11,tb11,tb11,tb11,tb11,tb11,tb11,tb11,fb11,fb11,fb11,fb11,fb11,fb11,fb11,fb11,fb11,fb11,fb11,fb11,fb11,fb11,fb11,fb11,fb11,fb11,fb11,fb11]
def ba11_80 : Array Bool := #[tb11,tb11,tb11,tb11,tb11,tb11,tb11,tb11,tb11,tb11,tb11,tb11,tb11,tb11,tb11,tb11,tb11,tb11,tb11,tb11,tb11,tb11,tb11,tb11,fb11,fb11,fb11,fb11,fb11,fb11,fb11,fb11,fb11,fb11,fb11,fb11,fb11,fb11,fb11,fb11,fb11,fb11,fb11]
def ba11_81 : Array Bool := #[tb11,tb11,tb11,tb11,tb11,tb11,tb11,tb11,tb11,tb11,tb11,tb11,tb11,tb11,tb11,tb11,tb11,tb11,tb11,tb11,tb11,tb11,tb11,tb11,tb11,fb11,fb11,fb11,fb11,fb11,fb11,fb11,fb11,fb11,fb11,fb11,fb11,fb11,fb11,fb11,fb11,fb11,fb11]
def ba11_82 : Array Bool := #[tb11,tb11,tb11,tb11,tb11,tb11,tb11,tb11,tb11,tb11,tb11,tb11,tb11,tb11,tb11,tb11,tb11,tb11,tb11,tb11,tb11,tb11,tb11,tb11,tb11,tb11,fb11,fb11,fb11,fb11,fb11,fb11,fb11,fb11,fb11,fb11,fb11,fb11,fb11,fb11,fb11,fb11,fb11]
def ba11_83 : Array Bool := #[tb11,tb11,tb11,tb11,tb11,tb11,tb11,tb11,tb11,tb11,tb11,tb11,tb11,tb11,tb11,tb11,tb11,tb11,tb11,tb11,tb11,tb11,tb11,tb11,tb11,tb11,tb11,fb11,fb11,fb11,fb11,fb11,fb11,fb11,fb11,fb11,fb11,fb11,fb11,fb11,fb11,fb11,fb11]
def ba11_84 : Array Bool := #[tb11,tb11,tb11,tb11,tb11,tb11,tb11,tb11,tb11,tb11,tb11,tb11,tb11,tb11,tb11,tb11,tb11,tb11,tb11,tb11,tb11,tb11,tb11,tb11,tb11,tb11,tb11,tb11,fb11,fb11,fb11,fb11,fb11,fb11,fb11,fb11,fb11,fb11,fb11,fb11,fb11,fb11,fb11]
def ba11_85 : Array Bool := #[tb11,tb11,tb11,tb11,tb11,tb11,tb11,tb11,tb11,tb11,tb11,tb11,tb11,tb11,tb11,tb11,tb11,tb11,tb11,tb11,tb11,tb11,tb11,tb11,tb11,tb11,tb11,tb11,tb11,fb11,fb11,fb11,fb11,fb11,fb11,fb11,fb11,fb11,fb11,fb11,fb11,fb11,fb11]
def ba11_86 : Array Bool := #[tb11,tb11,tb11,tb11,tb11,tb11,tb11,tb11,tb11,tb11,tb11,tb11,tb11,tb11,tb11,tb11,tb11,tb11,tb11,tb11,tb11,tb11,tb11,tb11,tb11,tb11,tb11,tb11,tb11,tb11,fb11,fb11,fb11,fb11,fb11,fb11,fb11,fb11,fb11,fb11,fb11,fb11,fb11]
def ba11_87 : Array Bool := #[tb11,tb11,tb11,tb11,tb11,tb11,tb11,tb11,tb11,tb11,tb11,tb11,tb11,tb11,tb11,tb11,tb11,tb11,tb11,tb11,tb11,tb11,tb11,tb11,tb11,tb11,tb11,tb11,tb11,tb11,tb11,fb11,fb11,fb11,fb11,fb11,fb11,fb11,fb11,fb11,fb11,fb11,fb11]
def ba11_88 : Array Bool := #[tb11,tb11,tb11,tb11,tb11,tb11,tb11,tb11,tb11,tb11,tb11,tb11,tb11,tb11,tb11,tb11,tb11,tb11,tb11,tb11,tb11,tb11,tb11,tb11,tb11,tb11,tb11,tb11,tb11,tb11,tb11,tb11,fb11,fb11,fb11,fb11,fb11,fb11,fb11,fb11,fb11,fb11,fb11]
def ba11_89 : Array Bool := #[tb11,tb11,tb11,tb11,tb11,tb11,tb11,tb11,tb11,tb11,tb11,tb11,tb11,tb11,tb11,tb11,tb11,tb11,tb11,tb11,tb11,tb11,tb11,tb11,tb11,tb11,tb11,tb11,tb11,tb11,tb11,tb11,tb11,fb11,fb11,fb11,fb11,fb11,fb11,fb11,fb11,fb11,fb11]
def ba11_90 : Array Bool := #[tb11,tb11,tb11,tb11,tb11,tb11,tb11,tb11,tb11,tb11,tb11,tb11,tb11,tb11,tb11,tb11,tb11,tb11,tb11,tb11,tb11,tb11,tb11,tb11,tb11,tb11,tb11,tb11,tb11,tb11,tb11,tb11,tb11,tb11,fb11,fb11,fb11,fb11,fb11,fb11,fb11,fb11,fb11]
def ba11_91 : Array Bool := #[tb11,tb11,tb11,tb11,tb11,tb11,tb11,tb11,tb11,tb11,tb11,tb11,tb11,tb11,tb11,tb11,tb11,tb11,tb11,tb11,tb11,tb11,tb11,tb11,tb11,tb11,tb11,tb11,tb11,tb11,tb11,tb11,tb11,tb11,tb11,fb11,fb11,fb11,fb11,fb11,fb11,fb11,fb11]
def ba11_92 : Array Bool := #[tb11,tb11,tb11,tb11,tb11,tb11,tb11,tb11,tb11,tb11,tb11,tb11,tb11,tb11,tb11,tb11,tb11,tb11,tb11,tb11,tb11,tb11,tb11,tb11,tb11,tb11,tb11,tb11,tb11,tb11,tb11,tb11,tb11,tb11,tb11,tb11,fb11,fb11,fb11,fb11,fb11,fb11,fb11]
def ba11_93 : Array Bool := #[tb11,tb11,tb11,tb11,tb11,tb11,tb11,tb11,tb11,tb11,tb11,tb11,tb11,tb11,tb11,tb11,tb11,tb11,tb11,tb11,tb11,tb11,tb11,tb11,tb11,tb11,tb11,tb11,tb11,tb11,tb11,tb11,tb11,tb11,tb11,tb11,tb11,fb11,fb11,fb11,fb11,fb11,fb11]
def ba11_94 : Array Bool := #[tb11,tb11,tb11,tb11,tb11,tb11,tb11,tb11,tb11,tb11,tb11,tb11,tb11,fb11,fb11,fb11,fb11,fb11,fb11,fb11,fb11,fb11,fb11,fb11,fb11,fb11,fb11,fb11,fb11,fb11,fb11,fb11,fb11,fb11,fb11,fb11,fb11,fb11,fb11,fb11,fb11,fb11,fb11]

/-! ### laws_FnTriangle: function 6 -/
mutual
def laws_FnTriangle.l0 : Nat → List (List Int) → List (List Int) → Int → Int → List (S76) → Option (Bool)
 | 0, _, _, _, _, _ => none
 | k + 1, x4, x5, x6, x368000, x368001 => if x6 < x368000 then (if 0 ≤ x6 then (if x6 < (x4.length : Int) then (if x6 < (x5.length : Int) then ((laws_same.f k (rd_L3 x4 x6) (rd_L3 x5 x6)).bind fun t377 => (if t377 = true then (if x6 < ((rd_L3 x4 x6).length : Int) then (laws_FnTriangle.j1 k x4 x5 x6 ((rd (rd_L3 x4 x6) x6) != 0) x368000 x368001) else (none)) else (laws_FnTriangle.j1 k x4 x5 x6 true x368000 x368001))) else (none)) else (none)) else (none)) else (some true)
def laws_FnTriangle.j1 : Nat → List (List Int) → List (List Int) → Int → Bool → Int → List (S76) → Option (Bool)
 | 0, _, _, _, _, _, _ => none
 | k + 1, x4, x5, x6, x50, x368000, x368001 => if x50 = true then (some false) else (laws_FnTriangle.l1 k x4 x5 x6 0 x368000 x368001)
def laws_FnTriangle.l1 : Nat → List (List Int) → List (List Int) → Int → Int → Int → List (S76) → Option (Bool)
 | 0, _, _, _, _, _, _ => none
 | k + 1, x4, x5, x6, x7, x368000, x368001 => if x7 < x368000 then ((impl_CostOf.f k x368000 x368001 x6 x7).bind fun t380 => (if 0 ≤ x6 then (if x6 < (x4.length : Int) then (if 0 ≤ x7 then (if x7 < ((rd_L3 x4 x6).length : Int) then (if t380 < (rd (rd_L3 x4 x6) x7) then (some false) else (laws_FnTriangle.l2 k x4 x5 x6 x7 0 x368000 x368001)) else (none)) else (none)) else (none)) else (none))) else (laws_FnTriangle.l0 k x4 x5 (wrap64 (x6 + 1)) x368000 x368001)
def laws_FnTriangle.l2 : Nat → List (List Int) → List (List Int) → Int → Int → Int → Int → List (S76) → Option (Bool)
 | 0, _, _, _, _, _, _, _ => none
 | k + 1, x4, x5, x6, x7, x8, x368000, x368001 => if x8 < x368000 then (if 0 ≤ x6 then (if x6 < (x4.length : Int) then (if 0 ≤ x8 then (if x8 < ((rd_L3 x4 x6).length : Int) then (if (rd (rd_L3 x4 x6) x8) < 1000000 then (if x8 < (x4.length : Int) then (if 0 ≤ x7 then (if x7 < ((rd_L3 x4 x8).length : Int) then (if (rd (rd_L3 x4 x8) x7) < 1000000 then (if x7 < ((rd_L3 x4 x6).length : Int) then (if (rd (rd_L3 x4 x6) x7) > (wrap64 ((rd (rd_L3 x4 x6) x8) + (rd (rd_L3 x4 x8) x7))) then (some false) else (laws_FnTriangle.l2 k x4 x5 x6 x7 (wrap64 (x8 + 1)) x368000 x368001)) else (none)) else (laws_FnTriangle.l2 k x4 x5 x6 x7 (wrap64 (x8 + 1)) x368000 x368001)) else (none)) else (none)) else (none)) else (laws_FnTriangle.l2 k x4 x5 x6 x7 (wrap64 (x8 + 1)) x368000 x368001)) else (none)) else (none)) else (none)) else (none)) else (laws_FnTriangle.l1 k x4 x5 x6 (wrap64 (x7 + 1)) x368000 x368001)
end
def laws_FnTriangle.f (k : Nat) (l0 : List Int) : Option (Bool) := (laws_big.f l0).bind fun t362 => (if t362 = true then (some true) else ((spec_DrawAllDistances.f k l0).bind fun bt363 => ((spec_GraphOk.f k bt363.1 bt363.2).bind fun t368 => (if t368 = true then ((impl_AllDistances.f k bt363.1 bt363.2).bind fun t369 => ((spec_AllDistances.f k bt363.1 bt363.2).bind fun t372 => (if (t369.length : Int) = bt363.1 then (laws_FnTriangle.l0 k t369 t372 0 bt363.1 bt363.2) else (some false)))) else (some true)))))
theorem laws_FnTriangle.mono_l : ∀ k, (∀ y0 y1 y2 y3 y4, LeO (laws_FnTriangle.l0 k y0 y1 y2 y3 y4) (laws_FnTriangle.l0 (k + 1) y0 y1 y2 y3 y4)) ∧ (∀ y0 y1 y2 y3 y4 y5, LeO (laws_FnTriangle.j1 k y0 y1 y2 y3 y4 y5) (laws_FnTriangle.j1 (k + 1) y0 y1 y2 y3 y4 y5)) ∧ (∀ y0 y1 y2 y3 y4 y5, LeO (laws_FnTriangle.l1 k y0 y1 y2 y3 y4 y5) (laws_FnTriangle.l1 (k + 1) y0 y1 y2 y3 y4 y5)) ∧ (∀ y0 y1 y2 y3 y4 y5 y6, LeO (laws_FnTriangle.l2 k y0 y1 y2 y3 y4 y5 y6) (laws_FnTriangle.l2 (k + 1) y0 y1 y2 y3 y4 y5 y6))
 | 0 => ⟨fun _ _ _ _ _ r h => by simp [laws_FnTriangle.l0] at h, fun _ _ _ _ _ _ r h => by simp [laws_FnTriangle.j1] at h, fun _ _ _ _ _ _ r h => by simp [laws_FnTriangle.l1] at h, fun _ _ _ _ _ _ _ r h => by simp [laws_FnTriangle.l2] at h⟩
 | k + 1 => by
  obtain ⟨ih0, ih1, ih2, ih3⟩ := laws_FnTriangle.mono_l k
  refine ⟨?_, ?_, ?_, ?_⟩
  ·intro y0 y1 y2 y3 y4
   unfold laws_FnTriangle.l0
   repeat' first
   | (with_reducible exact ih0 _ _ _ _ _)
   | (with_reducible exact ih1 _ _ _ _ _ _)
   | (with_reducible exact ih2 _ _ _ _ _ _)
   | (with_reducible exact ih3 _ _ _ _ _ _ _)
   | (with_reducible exact impl_AllDistances.mono _ _ _)
   | (with_reducible exact impl_CostOf.mono _ _ _ _ _)
   | (with_reducible exact laws_same.mono _ _ _)
   | (with_reducible exact spec_AllDistances.mono _ _ _)
   | (with_reducible exact spec_DrawAllDistances.mono _ _)
   | (with_reducible exact spec_GraphOk.mono _ _ _)
   | (with_reducible exact LeO.refl _)
   | (with_reducible exact LeO.none _)
   | (with_reducible refine LeO.ite ?_ ?_)
   | (with_reducible refine LeO.bind ?_ (fun _ => ?_))
   | exact ih0 _ _ _ _ _
   | exact ih1 _ _ _ _ _ _
   | exact ih2 _ _ _ _ _ _
   | exact ih3 _ _ _ _ _ _ _
   | exact impl_AllDistances.mono _ _ _
   | exact impl_CostOf.mono _ _ _ _ _
   | exact laws_same.mono _ _ _
   | exact spec_AllDistances.mono _ _ _
   | exact spec_DrawAllDistances.mono _ _
   | exact spec_GraphOk.mono _ _ _
   | exact LeO.none _
   | refine LeO.ite ?_ ?_
   | refine LeO.bind ?_ (fun _ => ?_)
  ·intro y0 y1 y2 y3 y4 y5
   unfold laws_FnTriangle.j1
   repeat' first
   | (with_reducible exact ih0 _ _ _ _ _)
   | (with_reducible exact ih1 _ _ _ _ _ _)
   | (with_reducible exact ih2 _ _ _ _ _ _)
   | (with_reducible exact ih3 _ _ _ _ _ _ _)
   | (with_reducible exact impl_AllDistances.mono _ _ _)
   | (with_reducible exact impl_CostOf.mono _ _ _ _ _)
   | (with_reducible exact laws_same.mono _ _ _)
   | (with_reducible exact spec_AllDistances.mono _ _ _)
   | (with_reducible exact spec_DrawAllDistances.mono _ _)
   | (with_reducible exact spec_GraphOk.mono _ _ _)
   | (with_reducible exact LeO.refl _)
   | (with_reducible exact LeO.none _)
   | (with_reducible refine LeO.ite ?_ ?_)
   | (with_reducible refine LeO.bind ?_ (fun _ => ?_))
   | exact ih0 _ _ _ _ _
   | exact ih1 _ _ _ _ _ _
   | exact ih2 _ _ _ _ _ _
   | exact ih3 _ _ _ _ _ _ _
   | exact impl_AllDistances.mono _ _ _
   | exact impl_CostOf.mono _ _ _ _ _
   | exact laws_same.mono _ _ _
   | exact spec_AllDistances.mono _ _ _
   | exact spec_DrawAllDistances.mono _ _
   | exact spec_GraphOk.mono _ _ _
   | exact LeO.none _
   | refine LeO.ite ?_ ?_
   | refine LeO.bind ?_ (fun _ => ?_)
  ·intro y0 y1 y2 y3 y4 y5
   unfold laws_FnTriangle.l1
   repeat' first
   | (with_reducible exact ih0 _ _ _ _ _)
   | (with_reducible exact ih1 _ _ _ _ _ _)
   | (with_reducible exact ih2 _ _ _ _ _ _)
   | (with_reducible exact ih3 _ _ _ _ _ _ _)
   | (with_reducible exact impl_AllDistances.mono _ _ _)
   | (with_reducible exact impl_CostOf.mono _ _ _ _ _)
   | (with_reducible exact laws_same.mono _ _ _)
   | (with_reducible exact spec_AllDistances.mono _ _ _)
   | (with_reducible exact spec_DrawAllDistances.mono _ _)
   | (with_reducible exact spec_GraphOk.mono _ _ _)
   | (with_reducible exact LeO.refl _)
   | (with_reducible exact LeO.none _)
   | (with_reducible refine LeO.ite ?_ ?_)
   | (with_reducible refine LeO.bind ?_ (fun _ => ?_))
   | exact ih0 _ _ _ _ _
   | exact ih1 _ _ _ _ _ _
   | exact ih2 _ _ _ _ _ _
   | exact ih3 _ _ _ _ _ _ _
   | exact impl_AllDistances.mono _ _ _
   | exact impl_CostOf.mono _ _ _ _ _
   | exact laws_same.mono _ _ _
   | exact spec_AllDistances.mono _ _ _
   | exact spec_DrawAllDistances.mono _ _
   | exact spec_GraphOk.mono _ _ _
   | exact LeO.none _
   | refine LeO.ite ?_ ?_
   | refine LeO.bind ?_ (fun _ => ?_)
  ·intro y0 y1 y2 y3 y4 y5 y6
   unfold laws_FnTriangle.l2
   repeat' first
   | (with_reducible exact ih0 _ _ _ _ _)
   | (with_reducible exact ih1 _ _ _ _ _ _)
   | (with_reducible exact ih2 _ _ _ _ _ _)
   | (with_reducible exact ih3 _ _ _ _ _ _ _)
   | (with_reducible exact impl_AllDistances.mono _ _ _)
   | (with_reducible exact impl_CostOf.mono _ _ _ _ _)
   | (with_reducible exact laws_same.mono _ _ _)
   | (with_reducible exact spec_AllDistances.mono _ _ _)
   | (with_reducible exact spec_DrawAllDistances.mono _ _)
   | (with_reducible exact spec_GraphOk.mono _ _ _)
   | (with_reducible exact LeO.refl _)
   | (with_reducible exact LeO.none _)
   | (with_reducible refine LeO.ite ?_ ?_)
   | (with_reducible refine LeO.bind ?_ (fun _ => ?_))
   | exact ih0 _ _ _ _ _
   | exact ih1 _ _ _ _ _ _
   | exact ih2 _ _ _ _ _ _
   | exact ih3 _ _ _ _ _ _ _
   | exact impl_AllDistances.mono _ _ _
   | exact impl_CostOf.mono _ _ _ _ _
   | exact laws_same.mono _ _ _
   | exact spec_AllDistances.mono _ _ _
   | exact spec_DrawAllDistances.mono _ _
   | exact spec_GraphOk.mono _ _ _
   | exact LeO.none _
   | refine LeO.ite ?_ ?_
   | refine LeO.bind ?_ (fun _ => ?_)
theorem laws_FnTriangle.mono : ∀ a0 k, LeO (laws_FnTriangle.f k a0) (laws_FnTriangle.f (k + 1) a0) := by
 intro a0 k
 obtain ⟨ih0, ih1, ih2, ih3⟩ := laws_FnTriangle.mono_l k
 unfold laws_FnTriangle.f
 repeat' first
   | (with_reducible exact ih0 _ _ _ _ _)
   | (with_reducible exact ih1 _ _ _ _ _ _)
   | (with_reducible exact ih2 _ _ _ _ _ _)
   | (with_reducible exact ih3 _ _ _ _ _ _ _)
   | (with_reducible exact impl_AllDistances.mono _ _ _)
   | (with_reducible exact impl_CostOf.mono _ _ _ _ _)
   | (with_reducible exact laws_same.mono _ _ _)
   | (with_reducible exact spec_AllDistances.mono _ _ _)
   | (with_reducible exact spec_DrawAllDistances.mono _ _)
   | (with_reducible exact spec_GraphOk.mono _ _ _)
   | (with_reducible exact LeO.refl _)
   | (with_reducible exact LeO.none _)
   | (with_reducible refine LeO.ite ?_ ?_)
   | (with_reducible refine LeO.bind ?_ (fun _ => ?_))
   | exact ih0 _ _ _ _ _
   | exact ih1 _ _ _ _ _ _
   | exact ih2 _ _ _ _ _ _
   | exact ih3 _ _ _ _ _ _ _
   | exact impl_AllDistances.mono _ _ _
   | exact impl_CostOf.mono _ _ _ _ _
   | exact laws_same.mono _ _ _
   | exact spec_AllDistances.mono _ _ _
   | exact spec_DrawAllDistances.mono _ _
   | exact spec_GraphOk.mono _ _ _
   | exact LeO.none _
   | refine LeO.ite ?_ ?_
   | refine LeO.bind ?_ (fun _ => ?_)
def laws_FnTriangle.T13 : Bool × List (List Nat × List Nat) := (true, [([], []), ([], []), ([0, 1], [0, 1]), ([2], [2]), ([], []), ([], []), ([4, 5], [4, 5]), ([6], [6]), ([3, 7], [3, 7]), ([8], [8]), ([9, 8], [9]), ([10], [10]), ([10], [10]), ([11, 12, 10], [10, 11, 12]), ([13, 10], [10, 13]), ([10], [10]), ([14, 15, 10], [10, 14, 15]), ([16, 10], [10, 16]), ([17, 10], [10, 17]), ([10, 18], [10, 18])])
def laws_FnTriangle.B13 : List Nat := [0, 0, 3, 7, 0, 0, 48, 112, 255, 511, 1023, 2047, 2047, 8191, 16383, 2047, 65535, 131071, 262143, 524287]
theorem laws_FnTriangle.tab13 : rtab .any (opsOf Try.f6 13) = laws_FnTriangle.T13 := by kernel_rfl
theorem laws_FnTriangle.bits13 : waitsOk laws_FnTriangle.T13.2 laws_FnTriangle.B13 = true := by kernel_rfl
def laws_FnTriangle.T18 : Bool × List (List Nat × List Nat) := (true, [([], []), ([], []), ([], []), ([0, 1, 2], [0, 1, 2]), ([], []), ([], []), ([4, 5], [4, 5]), ([6], [6]), ([], []), ([7, 8], [7, 8]), ([9], [9]), ([3, 10], [3, 10])])
def laws_FnTriangle.B18 : List Nat := [0, 0, 0, 7, 0, 0, 48, 112, 0, 496, 1008, 2047]
theorem laws_FnTriangle.tab18 : rtab .any (opsOf Try.f6 18) = laws_FnTriangle.T18 := by kernel_rfl
theorem laws_FnTriangle.bits18 : waitsOk laws_FnTriangle.T18.2 laws_FnTriangle.B18 = true := by kernel_rfl
def laws_FnTriangle.T23 : Bool × List (List Nat × List Nat) := (true, [([], []), ([], []), ([0, 1], [0, 1]), ([2], [2]), ([], []), ([3, 4], [3, 4]), ([5], [5]), ([6], [6]), ([7], [7]), ([8], [8]), ([8], [8]), ([9, 10, 8], [8, 9, 10]), ([11, 8], [8, 11]), ([8], [8]), ([12, 13, 8], [8, 12, 13]), ([14, 8], [8, 14]), ([15, 8], [8, 15]), ([8, 16], [8, 16]), ([17, 8], [17]), ([18], [18]), ([18], [18]), ([19, 20, 18], [18, 19, 20]), ([21, 18], [18, 21]), ([18], [18]), ([22, 23, 18], [18, 22, 23]), ([24, 18], [18, 24]), ([18], [18]), ([18], [18]), ([26, 27, 18], [18, 26, 27]), ([28, 18], [18, 28]), ([18], [18]), ([29, 30, 18], [18, 29, 30]), ([31, 18], [18, 31]), ([18], [18]), ([18], [18]), ([33, 34, 18], [18, 33, 34]), ([35, 18], [18, 35]), ([18], [18]), ([36, 37, 18], [18, 36, 37]), ([38, 18], [18, 38]), ([32, 39, 18], [18, 32, 39]), ([25, 40, 18], [18, 25, 40]), ([18, 41], [18, 41])])
def laws_FnTriangle.B23 : List Nat := [0, 0, 3, 7, 0, 31, 63, 127, 255, 511, 511, 2047, 4095, 511, 16383, 32767, 65535, 131071, 262143, 524287, 524287, 2097151, 4194303, 524287, 16777215, 33554431, 524287, 524287, 201850879, 470286335, 524287, 2080899071, 4228382719, 524287, 524287, 25770328063, 60130066431, 524287, 266288496639, 541166403583, 1099445043199, 2199023255551, 4398046511103]
theorem laws_FnTriangle.tab23 : rtab .any (opsOf Try.f6 23) = laws_FnTriangle.T23 := by kernel_rfl
theorem laws_FnTriangle.bits23 : waitsOk laws_FnTriangle.T23.2 laws_FnTriangle.B23 = true := by kernel_rfl
set_option maxHeartbeats 8000000 in
set_option maxRecDepth 100000 in
theorem laws_FnTriangle.calls (k : Nat) (A0 : Option Addr) (c0 : Nat) (l0 : List Int) (r : Bool) (w : World) (hr0 : Kd.C (Kd.int .u8) w A0 l0.length l0) (hc0 : l0.length ≤ c0) (h : laws_FnTriangle.f k l0 = some r) :
  Calls Try.prog 6 #[.slice A0 l0.length c0] w fun e w' => e = .returned (.bool r) ∧ Below w.heap.size w w' := by
 have hu30 := Try.underlying30
 have HR0 := Aside0.mk hr0
 have HC0 := Aside0.mk hc0
 clear hr0 hc0
 have HB := Aside0.mk (Below.refl w.heap.size w)
 have H : ((laws_big.f l0).bind fun t362 => (if t362 = true then (some true) else ((spec_DrawAllDistances.f k l0).bind fun bt363 => ((spec_GraphOk.f k bt363.1 bt363.2).bind fun t368 => (if t368 = true then ((impl_AllDistances.f k bt363.1 bt363.2).bind fun t369 => ((spec_AllDistances.f k bt363.1 bt363.2).bind fun t372 => (if (t369.length : Int) = bt363.1 then (laws_FnTriangle.l0 k t369 t372 0 bt363.1 bt363.2) else (some false)))) else (some true)))))) = some r := h
 clear h
 replace H := Option.bind_eq_some_iff.mp H
 obtain ⟨t362, A20, H⟩ := H
 have A2 := Aside0.mk A20
 clear A20
 by_cases c3 : t362 = true
 ·subst c3
  rw [if_pos rfl] at H
  obtain rfl := Option.some.inj H
  go_enter Try.func6, Try.ntmps6
  go_wp2_with (first | ((with_reducible refine gate_callee (f := 23) rfl ?_); refine gl_ (some 10) Try.func23 #[.slice A0 l0.length c0] ?_; (with_reducible refine (laws_big.calls _ _ l0 true _ ?side1 ?side2 A2.out).mono ?_); (case side1 => repeat (first | exact HR0.out | (with_reducible refine Kd.C_alloc ?_ _) | (with_reducible refine Kd.C_drewN ?_ _) | (with_reducible refine Kd.C_drew ?_))); (case side2 => exact HC0.out); rintro e w' ⟨rfl, ⟨nd, rfl⟩⟩; refine ⟨_, rfl, ?_⟩))
  go_ret
  exact ⟨by first | rfl | (simp [errW_none, errW_some] <;> rfl) | (simp [*, errW_none, errW_some] <;> rfl), by repeat (first | (with_reducible first | exact HB.out | apply below_alloc | apply pw_below_drewN | apply below_drew1) | exact HB.out)⟩
 replace c3 := Bool.eq_false_iff.mpr c3
 subst c3
 rw [if_neg (show ¬ (false = true) by decide)] at H
 replace H := Option.bind_eq_some_iff.mp H
 obtain ⟨⟨t363, t364⟩, A40, H⟩ := H
 have A4 := Aside0.mk A40
 clear A40
 replace H := Option.bind_eq_some_iff.mp H
 obtain ⟨t368, A50, H⟩ := H
 have A5 := Aside0.mk A50
 clear A50
 by_cases c6 : t368 = true
 rotate_left
 ·replace c6 := Bool.eq_false_iff.mpr c6
  subst c6
  rw [if_neg (show ¬ (false = true) by decide)] at H
  obtain rfl := Option.some.inj H
  go_enter Try.func6, Try.ntmps6
  go_wp2_with (first | ((with_reducible refine gate_callee (f := 23) rfl ?_); refine gl_ (some 10) Try.func23 #[.slice A0 l0.length c0] ?_; (with_reducible refine (laws_big.calls _ _ l0 false _ ?side1 ?side2 A2.out).mono ?_); (case side1 => repeat (first | exact HR0.out | (with_reducible refine Kd.C_alloc ?_ _) | (with_reducible refine Kd.C_drewN ?_ _) | (with_reducible refine Kd.C_drew ?_))); (case side2 => exact HC0.out); rintro e w' ⟨rfl, ⟨nd, rfl⟩⟩; refine ⟨_, rfl, ?_⟩) | ((with_reducible refine gate_callee (f := 24) rfl ?_); refine gl_ (some 12) Try.func24 #[.slice A0 l0.length c0] ?_; (with_reducible refine (spec_DrawAllDistances.calls k _ _ l0 t363 t364 _ ?side1 ?side2 A4.out).mono ?_); (case side1 => repeat (first | exact HR0.out | (with_reducible refine Kd.C_alloc ?_ _) | (with_reducible refine Kd.C_drewN ?_ _) | (with_reducible refine Kd.C_drew ?_))); (case side2 => exact HC0.out); rintro e w82 ⟨v365, rfl, ho0, hb⟩; refine ⟨_, rfl, ?_⟩; have HO366 := Aside0.mk (Kd.R_lower ho0 (bz_ HB)); replace HB := Aside0.mk (bt_ HB hb); (try clear hb); (try clear hb2); (try clear hk); (try clear hi); (try clear ho0)) | ((with_reducible refine gate_dst (N := 3) rfl ?_); refine box_event ?hg (N := 3) ?hd (cs := #[.int .i64 0, .slice none 0 0]) (t := 30) ?hr ?_; (case hd => rfl); (case hg => rfl); (case hr => first | (go_simp; done) | (go_simp; rfl)); intro gb367 hg w83 hbox hb; have BK367 := Aside0.mk hbox; have GW367 := ge_ HB hg; have GE367 := ge_ HB hg; replace HO366 := rb_ HO366 hb; replace HB := Aside0.mk (bt_ HB hb); clear hb hbox hg; have hcz84_0 := cz_ BK367 0 (.int .i64 0); have hcz84_1 := cz_ BK367 1 (.slice none 0 0); have hfz84_0 := blk_frozen BK367.out 0; have hfz84_1 := blk_frozen BK367.out 1; obtain ⟨Ao85, co85, eo85⟩ := Kd.R_slice HO366.out; subst eo85) | ((with_reducible refine gate_callee (f := 25) rfl ?_); refine gl_ (some 14) Try.func25 #[.agg #[.int .i64 t363, .slice Ao85 t364.length co85]] ?_; (with_reducible refine (spec_GraphOk.calls k t363 _ _ t364 false _ ?side1 ?side2 A5.out).mono ?_); (case side1 => refine (Kd.R_reads' (e := 76) (base := w.heap.size) (ok := fun k_ => True) (n := t364.length) (c := co85) ?_).2.2; exact (hs_ HO366 BK367)); (case side2 => exact (Kd.R_reads' HO366.out).2.1); rintro e w86 ⟨rfl, hb⟩; refine ⟨_, rfl, ?_⟩; replace HO366 := rs_ HO366 BK367 hb; replace BK367 := Aside0.mk (blk_below (g := gb367) (o := .cells #[.int .i64 t363, .slice Ao85 t364.length co85] 30 (0, 0)) (by (with_reducible repeat (first | refine blk_drewN ?_ _ | refine blk_drew ?_ | refine blk_alloc ?_ _)); refine blk_put (cs := #[.int .i64 t363, .slice none 0 0]) ?_ 1 _ rfl; (with_reducible repeat (first | refine blk_drewN ?_ _ | refine blk_drew ?_ | refine blk_alloc ?_ _)); refine blk_put (cs := #[.int .i64 0, .slice none 0 0]) ?_ 0 _ rfl; (with_reducible repeat (first | refine blk_drewN ?_ _ | refine blk_drew ?_ | refine blk_alloc ?_ _)); exact BK367.out) hb); replace HB := Aside0.mk (bt_ HB hb); (try clear hb); (try clear hb2); (try clear hk); (try clear hi)))
  go_ret
  exact ⟨by first | rfl | (simp [errW_none, errW_some] <;> rfl) | (simp [*, errW_none, errW_some] <;> rfl), by repeat (first | (with_reducible first | exact HB.out | apply below_alloc | apply pw_below_drewN | apply below_drew1 | refine below_set ?_ GE367.out) | exact HB.out)⟩
 subst c6
 rw [if_pos rfl] at H
 replace H := Option.bind_eq_some_iff.mp H
 obtain ⟨t369, A70, H⟩ := H
 have A7 := Aside0.mk A70
 clear A70
 replace H := Option.bind_eq_some_iff.mp H
 obtain ⟨t372, A80, H⟩ := H
 have A8 := Aside0.mk A80
 clear A80
 by_cases c9 : (t369.length : Int) = t363
 rotate_left
 ·rw [if_neg c9] at H
  have c9b0 : ((t369.length : Int) == t363) = false := beq_eq_false_iff_ne.mpr c9
  have c9b1 : ((t369.length : Int) != t363) = true := bne_iff_ne.mpr c9
  obtain rfl := Option.some.inj H
  go_enter Try.func6, Try.ntmps6
  go_wp2_with (first | ((with_reducible refine gate_callee (f := 23) rfl ?_); refine gl_ (some 10) Try.func23 #[.slice A0 l0.length c0] ?_; (with_reducible refine (laws_big.calls _ _ l0 false _ ?side1 ?side2 A2.out).mono ?_); (case side1 => repeat (first | exact HR0.out | (with_reducible refine Kd.C_alloc ?_ _) | (with_reducible refine Kd.C_drewN ?_ _) | (with_reducible refine Kd.C_drew ?_))); (case side2 => exact HC0.out); rintro e w' ⟨rfl, ⟨nd, rfl⟩⟩; refine ⟨_, rfl, ?_⟩) | ((with_reducible refine gate_callee (f := 24) rfl ?_); refine gl_ (some 12) Try.func24 #[.slice A0 l0.length c0] ?_; (with_reducible refine (spec_DrawAllDistances.calls k _ _ l0 t363 t364 _ ?side1 ?side2 A4.out).mono ?_); (case side1 => repeat (first | exact HR0.out | (with_reducible refine Kd.C_alloc ?_ _) | (with_reducible refine Kd.C_drewN ?_ _) | (with_reducible refine Kd.C_drew ?_))); (case side2 => exact HC0.out); rintro e w71 ⟨v365, rfl, ho0, hb⟩; refine ⟨_, rfl, ?_⟩; have HO366 := Aside0.mk (Kd.R_lower ho0 (bz_ HB)); replace HB := Aside0.mk (bt_ HB hb); (try clear hb); (try clear hb2); (try clear hk); (try clear hi); (try clear ho0)) | ((with_reducible refine gate_dst (N := 3) rfl ?_); refine box_event ?hg (N := 3) ?hd (cs := #[.int .i64 0, .slice none 0 0]) (t := 30) ?hr ?_; (case hd => rfl); (case hg => rfl); (case hr => first | (go_simp; done) | (go_simp; rfl)); intro gb367 hg w72 hbox hb; have BK367 := Aside0.mk hbox; have GW367 := ge_ HB hg; have GE367 := ge_ HB hg; replace HO366 := rb_ HO366 hb; replace HB := Aside0.mk (bt_ HB hb); clear hb hbox hg; have hcz73_0 := cz_ BK367 0 (.int .i64 0); have hcz73_1 := cz_ BK367 1 (.slice none 0 0); have hfz73_0 := blk_frozen BK367.out 0; have hfz73_1 := blk_frozen BK367.out 1; obtain ⟨Ao74, co74, eo74⟩ := Kd.R_slice HO366.out; subst eo74) | ((with_reducible refine gate_callee (f := 25) rfl ?_); refine gl_ (some 14) Try.func25 #[.agg #[.int .i64 t363, .slice Ao74 t364.length co74]] ?_; (with_reducible refine (spec_GraphOk.calls k t363 _ _ t364 true _ ?side1 ?side2 A5.out).mono ?_); (case side1 => refine (Kd.R_reads' (e := 76) (base := w.heap.size) (ok := fun k_ => True) (n := t364.length) (c := co74) ?_).2.2; exact (hs_ HO366 BK367)); (case side2 => exact (Kd.R_reads' HO366.out).2.1); rintro e w75 ⟨rfl, hb⟩; refine ⟨_, rfl, ?_⟩; replace HO366 := rs_ HO366 BK367 hb; replace BK367 := Aside0.mk (blk_below (g := gb367) (o := .cells #[.int .i64 t363, .slice Ao74 t364.length co74] 30 (0, 0)) (by (with_reducible repeat (first | refine blk_drewN ?_ _ | refine blk_drew ?_ | refine blk_alloc ?_ _)); refine blk_put (cs := #[.int .i64 t363, .slice none 0 0]) ?_ 1 _ rfl; (with_reducible repeat (first | refine blk_drewN ?_ _ | refine blk_drew ?_ | refine blk_alloc ?_ _)); refine blk_put (cs := #[.int .i64 0, .slice none 0 0]) ?_ 0 _ rfl; (with_reducible repeat (first | refine blk_drewN ?_ _ | refine blk_drew ?_ | refine blk_alloc ?_ _)); exact BK367.out) hb); replace HB := Aside0.mk (bt_ HB hb); (try clear hb); (try clear hb2); (try clear hk); (try clear hi); have hcz76_0 := cz_ BK367 0 (.int .i64 t363); have hcz76_1 := cz_ BK367 1 (.slice Ao74 t364.length co74); have hfz76_0 := blk_frozen BK367.out 0; have hfz76_1 := blk_frozen BK367.out 1) | ((with_reducible refine gate_callee (f := 26) rfl ?_); refine gl_ (some 17) Try.func26 #[.agg #[.int .i64 t363, .slice Ao74 t364.length co74]] ?_; (with_reducible refine (impl_AllDistances.calls k t363 _ _ t364 t369 _ ?side1 ?side2 A7.out).mono ?_); (case side1 => exact rc_ HO366); (case side2 => exact (Kd.R_reads' HO366.out).2.1); rintro e w77 ⟨v370, rfl, ho0, hb⟩; refine ⟨_, rfl, ?_⟩; have HO371 := Aside0.mk (Kd.S_lower ho0 (bz_ HB)); replace HO366 := rb_ HO366 hb; replace BK367 := Aside0.mk (bb_ BK367 hb); replace HB := Aside0.mk (bt_ HB hb); (try clear hb); (try clear hb2); (try clear hk); (try clear hi); (try clear ho0); have hcz78_0 := cz_ BK367 0 (.int .i64 t363); have hcz78_1 := cz_ BK367 1 (.slice Ao74 t364.length co74); have hfz78_0 := blk_frozen BK367.out 0; have hfz78_1 := blk_frozen BK367.out 1) | ((with_reducible refine gate_callee (f := 27) rfl ?_); refine gl_ (some 19) Try.func27 #[.agg #[.int .i64 t363, .slice Ao74 t364.length co74]] ?_; (with_reducible refine (spec_AllDistances.calls k t363 _ _ t364 t372 _ ?side1 ?side2 A8.out).mono ?_); (case side1 => exact rc_ HO366); (case side2 => exact (Kd.R_reads' HO366.out).2.1); rintro e w79 ⟨v373, rfl, ho0, hb⟩; refine ⟨_, rfl, ?_⟩; have HO374 := Aside0.mk (Kd.S_lower (Kd.S_new' ho0 (Kd.S_lt (by (with_reducible repeat (first | apply Kd.S_alloc | apply Kd.S_drewN | apply Kd.S_drew)); exact HO371.out))) (bz_ HB)); replace HO366 := rb_ HO366 hb; replace HO371 := Aside0.mk (Kd.S_elder' (by (with_reducible repeat (first | apply Kd.S_alloc | apply Kd.S_drewN | apply Kd.S_drew)); exact HO371.out) (Kd.S_base ho0) hb); replace BK367 := Aside0.mk (bb_ BK367 hb); replace HB := Aside0.mk (bt_ HB hb); (try clear hb); (try clear hb2); (try clear hk); (try clear hi); (try clear ho0); obtain ⟨Ao80, co80, eo80⟩ := Kd.S_slice HO371.out; subst eo80; have hcz81_0 := cz_ BK367 0 (.int .i64 t363); have hcz81_1 := cz_ BK367 1 (.slice Ao74 t364.length co74); have hfz81_0 := blk_frozen BK367.out 0; have hfz81_1 := blk_frozen BK367.out 1))
  go_ret
  exact ⟨by first | rfl | (simp [errW_none, errW_some] <;> rfl) | (simp [*, errW_none, errW_some] <;> rfl), by repeat (first | (with_reducible first | exact HB.out | apply below_alloc | apply pw_below_drewN | apply below_drew1 | refine below_set ?_ GE367.out) | exact HB.out)⟩
 rw [if_pos c9] at H
 have c9b0 : ((t369.length : Int) == t363) = true := beq_iff_eq.mpr c9
 have c9b1 : ((t369.length : Int) != t363) = false := bne_eq_false_iff_eq.mpr c9
 clear c9
 have H' := Aside0.mk H
 clear H
 go_enter Try.func6, Try.ntmps6
 go_wp2_with (first | ((with_reducible refine gate_callee (f := 23) rfl ?_); refine gl_ (some 10) Try.func23 #[.slice A0 l0.length c0] ?_; (with_reducible refine (laws_big.calls _ _ l0 false _ ?side1 ?side2 A2.out).mono ?_); (case side1 => repeat (first | exact HR0.out | (with_reducible refine Kd.C_alloc ?_ _) | (with_reducible refine Kd.C_drewN ?_ _) | (with_reducible refine Kd.C_drew ?_))); (case side2 => exact HC0.out); rintro e w' ⟨rfl, ⟨nd, rfl⟩⟩; refine ⟨_, rfl, ?_⟩) | ((with_reducible refine gate_callee (f := 24) rfl ?_); refine gl_ (some 12) Try.func24 #[.slice A0 l0.length c0] ?_; (with_reducible refine (spec_DrawAllDistances.calls k _ _ l0 t363 t364 _ ?side1 ?side2 A4.out).mono ?_); (case side1 => repeat (first | exact HR0.out | (with_reducible refine Kd.C_alloc ?_ _) | (with_reducible refine Kd.C_drewN ?_ _) | (with_reducible refine Kd.C_drew ?_))); (case side2 => exact HC0.out); rintro e w10 ⟨v365, rfl, ho0, hb⟩; refine ⟨_, rfl, ?_⟩; have HO366 := Aside0.mk (Kd.R_lower ho0 (bz_ HB)); replace HB := Aside0.mk (bt_ HB hb); (try clear hb); (try clear hb2); (try clear hk); (try clear hi); (try clear ho0)) | ((with_reducible refine gate_dst (N := 3) rfl ?_); refine box_event ?hg (N := 3) ?hd (cs := #[.int .i64 0, .slice none 0 0]) (t := 30) ?hr ?_; (case hd => rfl); (case hg => rfl); (case hr => first | (go_simp; done) | (go_simp; rfl)); intro gb367 hg w11 hbox hb; have BK367 := Aside0.mk hbox; have GW367 := ge_ HB hg; have GE367 := ge_ HB hg; replace HO366 := rb_ HO366 hb; replace HB := Aside0.mk (bt_ HB hb); clear hb hbox hg; have hcz12_0 := cz_ BK367 0 (.int .i64 0); have hcz12_1 := cz_ BK367 1 (.slice none 0 0); have hfz12_0 := blk_frozen BK367.out 0; have hfz12_1 := blk_frozen BK367.out 1; obtain ⟨Ao13, co13, eo13⟩ := Kd.R_slice HO366.out; subst eo13) | ((with_reducible refine gate_callee (f := 25) rfl ?_); refine gl_ (some 14) Try.func25 #[.agg #[.int .i64 t363, .slice Ao13 t364.length co13]] ?_; (with_reducible refine (spec_GraphOk.calls k t363 _ _ t364 true _ ?side1 ?side2 A5.out).mono ?_); (case side1 => refine (Kd.R_reads' (e := 76) (base := w.heap.size) (ok := fun k_ => True) (n := t364.length) (c := co13) ?_).2.2; exact (hs_ HO366 BK367)); (case side2 => exact (Kd.R_reads' HO366.out).2.1); rintro e w14 ⟨rfl, hb⟩; refine ⟨_, rfl, ?_⟩; replace HO366 := rs_ HO366 BK367 hb; replace BK367 := Aside0.mk (blk_below (g := gb367) (o := .cells #[.int .i64 t363, .slice Ao13 t364.length co13] 30 (0, 0)) (by (with_reducible repeat (first | refine blk_drewN ?_ _ | refine blk_drew ?_ | refine blk_alloc ?_ _)); refine blk_put (cs := #[.int .i64 t363, .slice none 0 0]) ?_ 1 _ rfl; (with_reducible repeat (first | refine blk_drewN ?_ _ | refine blk_drew ?_ | refine blk_alloc ?_ _)); refine blk_put (cs := #[.int .i64 0, .slice none 0 0]) ?_ 0 _ rfl; (with_reducible repeat (first | refine blk_drewN ?_ _ | refine blk_drew ?_ | refine blk_alloc ?_ _)); exact BK367.out) hb); replace HB := Aside0.mk (bt_ HB hb); (try clear hb); (try clear hb2); (try clear hk); (try clear hi); have hcz15_0 := cz_ BK367 0 (.int .i64 t363); have hcz15_1 := cz_ BK367 1 (.slice Ao13 t364.length co13); have hfz15_0 := blk_frozen BK367.out 0; have hfz15_1 := blk_frozen BK367.out 1) | ((with_reducible refine gate_callee (f := 26) rfl ?_); refine gl_ (some 17) Try.func26 #[.agg #[.int .i64 t363, .slice Ao13 t364.length co13]] ?_; (with_reducible refine (impl_AllDistances.calls k t363 _ _ t364 t369 _ ?side1 ?side2 A7.out).mono ?_); (case side1 => exact rc_ HO366); (case side2 => exact (Kd.R_reads' HO366.out).2.1); rintro e w16 ⟨v370, rfl, ho0, hb⟩; refine ⟨_, rfl, ?_⟩; have HO371 := Aside0.mk (Kd.S_lower ho0 (bz_ HB)); replace HO366 := rb_ HO366 hb; replace BK367 := Aside0.mk (bb_ BK367 hb); replace HB := Aside0.mk (bt_ HB hb); (try clear hb); (try clear hb2); (try clear hk); (try clear hi); (try clear ho0); have hcz17_0 := cz_ BK367 0 (.int .i64 t363); have hcz17_1 := cz_ BK367 1 (.slice Ao13 t364.length co13); have hfz17_0 := blk_frozen BK367.out 0; have hfz17_1 := blk_frozen BK367.out 1) | ((with_reducible refine gate_callee (f := 27) rfl ?_); refine gl_ (some 19) Try.func27 #[.agg #[.int .i64 t363, .slice Ao13 t364.length co13]] ?_; (with_reducible refine (spec_AllDistances.calls k t363 _ _ t364 t372 _ ?side1 ?side2 A8.out).mono ?_); (case side1 => exact rc_ HO366); (case side2 => exact (Kd.R_reads' HO366.out).2.1); rintro e w18 ⟨v373, rfl, ho0, hb⟩; refine ⟨_, rfl, ?_⟩; have HO374 := Aside0.mk (Kd.S_lower (Kd.S_new' ho0 (Kd.S_lt (by (with_reducible repeat (first | apply Kd.S_alloc | apply Kd.S_drewN | apply Kd.S_drew)); exact HO371.out))) (bz_ HB)); replace HO366 := rb_ HO366 hb; replace HO371 := Aside0.mk (Kd.S_elder' (by (with_reducible repeat (first | apply Kd.S_alloc | apply Kd.S_drewN | apply Kd.S_drew)); exact HO371.out) (Kd.S_base ho0) hb); replace BK367 := Aside0.mk (bb_ BK367 hb); replace HB := Aside0.mk (bt_ HB hb); (try clear hb); (try clear hb2); (try clear hk); (try clear hi); (try clear ho0); obtain ⟨Ao19, co19, eo19⟩ := Kd.S_slice HO371.out; subst eo19; have hcz20_0 := cz_ BK367 0 (.int .i64 t363); have hcz20_1 := cz_ BK367 1 (.slice Ao13 t364.length co13); have hfz20_0 := blk_frozen BK367.out 0; have hfz20_1 := blk_frozen BK367.out 1))
 (try simp only [Act.put, List.setIfInBounds_toArray, List.set_cons_zero, List.set_cons_succ])
 go_loopg [6] k (fun kq v6 w' => ∃ (x6_1 : Int), v6 = .int .i64 x6_1 ∧ Aside0 (laws_FnTriangle.l0 kq t369 t372 x6_1 t363 t364 = some r) ∧ Aside0 (kq ≤ k) ∧ Aside0 (Kd.S (Kd.slice 3 (Kd.int .i64)) 26 w' w.heap.size (fun k_ => some k_ ≠ (v373 : Value).ownBlock) (.slice Ao19 t369.length co19) t369) ∧ Aside0 (Kd.S (Kd.slice 3 (Kd.int .i64)) 26 w' w.heap.size (fun k_ => some k_ ≠ ((.slice Ao19 t369.length co19) : Value).ownBlock) v373 t372) ∧ Aside0 (Kd.R k76 76 w' w.heap.size (fun _ => True) (.slice Ao13 t364.length co13) t364) ∧ Aside0 (w'.heap[gb367]? = some (.cells #[.int .i64 t363, (.slice Ao13 t364.length co13)] 30 (0, 0))) ∧ Aside0 (Below w.heap.size w w'))
 case atStart => exact ⟨(0), (by first | rfl | (simp; done) | (simp [*]; done)), H', ⟨Nat.le_refl _⟩, ⟨by (with_reducible repeat (first | apply Kd.S_alloc | apply Kd.S_drewN | apply Kd.S_drew)); exact Kd.S_mono HO371.out (fun _ hk => hk.2)⟩, ⟨by (with_reducible repeat (first | apply Kd.S_alloc | apply Kd.S_drewN | apply Kd.S_drew)); exact Kd.S_mono HO374.out (fun _ hk => hk.2)⟩, ⟨by (with_reducible repeat (first | apply Kd.R_alloc | apply Kd.R_drewN | apply Kd.R_drew)); exact HO366.out⟩, ⟨by (with_reducible repeat (first | refine blk_drewN ?_ _ | refine blk_drew ?_ | refine blk_alloc ?_ _)); exact BK367.out⟩, ⟨by repeat (first | (with_reducible first | exact HB.out | apply below_alloc | apply pw_below_drewN | apply below_drew1 | refine below_set ?_ GE367.out) | exact HB.out)⟩⟩
 case round =>
  clear H'
  try clear c2
  try clear p2
  try clear c3
  try clear c6
  try clear c9
  try clear c9b0
  try clear c9b1
  try clear hcz12_0
  try clear hcz12_1
  try clear hcz15_0
  try clear hcz15_1
  try clear hcz17_0
  try clear hcz17_1
  try clear hcz20_0
  try clear hcz20_1
  try clear hfz12_0
  try clear hfz12_1
  try clear hfz15_0
  try clear hfz15_1
  try clear hfz17_0
  try clear hfz17_1
  try clear hfz20_0
  try clear hfz20_1
  obtain ⟨x6_1, rfl, HA, HK1, HO_4, HO_5, HO_368001, BK367, HB⟩ := hrel
  cases gk with
  | zero => exact absurd HA.out (by simp [laws_FnTriangle.l0])
  | succ k1 =>
   have H := HA.out
   clear HA
   simp only [laws_FnTriangle.l0] at H
   by_cases c21 : x6_1 < t363
   rotate_left
   ·rw [if_neg c21] at H
    have c21b0 : decide (x6_1 < t363) = false := decide_eq_false c21
    clear c21
    obtain rfl := Option.some.inj H
    have hcz70_0 := cz_ BK367 0 (.int .i64 t363)
    have hcz70_1 := cz_ BK367 1 (.slice Ao13 t364.length co13)
    have hfz70_0 := blk_frozen BK367.out 0
    have hfz70_1 := blk_frozen BK367.out 1
    go_wp2
    go_ret
    exact ⟨by first | rfl | (simp [errW_none, errW_some] <;> rfl) | (simp [*, errW_none, errW_some] <;> rfl), by repeat (first | (with_reducible first | exact HB.out | apply below_alloc | apply pw_below_drewN | apply below_drew1 | refine below_set ?_ GE367.out) | exact HB.out)⟩
   rw [if_pos c21] at H
   have c21b0 : decide (x6_1 < t363) = true := decide_eq_true c21
   clear c21
   have HC22 := Aside0.mk H
   clear H
   have hcz23_0 := cz_ BK367 0 (.int .i64 t363)
   have hcz23_1 := cz_ BK367 1 (.slice Ao13 t364.length co13)
   have hfz23_0 := blk_frozen BK367.out 0
   have hfz23_1 := blk_frozen BK367.out 1
   go_upto_region 13 with (fail)
   go_cut [50] (fun v50 wc => ∃ (kq : Nat) (x50_21 : Bool), v50 = .bool x50_21 ∧ Aside0 (laws_FnTriangle.j1 kq t369 t372 x6_1 x50_21 t363 t364 = some r) ∧ Aside0 (kq ≤ k1) ∧ Aside0 (Kd.S (Kd.slice 3 (Kd.int .i64)) 26 wc w.heap.size (fun k_ => some k_ ≠ (v373 : Value).ownBlock) (.slice Ao19 t369.length co19) t369) ∧ Aside0 (Kd.S (Kd.slice 3 (Kd.int .i64)) 26 wc w.heap.size (fun k_ => some k_ ≠ ((.slice Ao19 t369.length co19) : Value).ownBlock) v373 t372) ∧ Aside0 (Kd.R k76 76 wc w.heap.size (fun _ => True) (.slice Ao13 t364.length co13) t364) ∧ Aside0 (wc.heap[gb367]? = some (.cells #[.int .i64 t363, (.slice Ao13 t364.length co13)] 30 (0, 0))) ∧ Aside0 (Below w.heap.size w wc))
   case first =>
    have H := HC22.out
    clear HC22
    by_cases c24 : 0 ≤ x6_1
    rotate_left
    ·rw [if_neg c24] at H
     exact absurd H (by simp)
    rw [if_pos c24] at H
    have c24b0 : decide (0 ≤ x6_1) = true := decide_eq_true c24
    clear c24
    (first | rw [c24b0] | (simp only [i64_w, i32_w]; rw [c24b0]) | skip)
    by_cases c25 : x6_1 < (t369.length : Int)
    rotate_left
    ·rw [if_neg c25] at H
     exact absurd H (by simp)
    rw [if_pos c25] at H
    have c25b0 : decide (x6_1 < (t369.length : Int)) = true := decide_eq_true c25
    clear c25
    by_cases c26 : x6_1 < (t372.length : Int)
    rotate_left
    ·rw [if_neg c26] at H
     exact absurd H (by simp)
    rw [if_pos c26] at H
    have c26b0 : decide (x6_1 < (t372.length : Int)) = true := decide_eq_true c26
    clear c26
    replace H := Option.bind_eq_some_iff.mp H
    obtain ⟨t377, A270, H⟩ := H
    have A27 := Aside0.mk A270
    clear A270
    by_cases c28 : t377 = true
    rotate_left
    ·replace c28 := Bool.eq_false_iff.mpr c28
     subst c28
     rw [if_neg (show ¬ (false = true) by decide)] at H
     have H' := Aside0.mk H
     clear H
     try go_wp2
     replace HO_4 := Aside0.mk (Kd.S_drew HO_4.out)
     replace HO_5 := Aside0.mk (Kd.S_drew HO_5.out)
     replace HO_368001 := Aside0.mk (Kd.R_drew HO_368001.out)
     replace BK367 := Aside0.mk (blk_drew BK367.out)
     replace HB := Aside0.mk (below_drew1 HB.out)
     have p375 : 0 ≤ (x6_1 : Int) := of_decide_eq_true (by first | (with_reducible assumption) | assumption)
     have q375 : x6_1 < (t369.length : Int) := of_decide_eq_true (by first | (with_reducible assumption) | assumption)
     obtain ⟨ad375, A375_0, c375_0, e375, hx375_0, hl375_0, hi375_0⟩ := at_L3 (Kd.S_reads' HO_4.out).2.2 x6_1 p375 q375
     cases e375
     obtain ⟨ce375, hce375, hMe375, hcc375⟩ := Kd.S_get HO_4.out [] x6_1 p375 (by first | exact q375 | exact of_decide_eq_true (by first | (with_reducible assumption) | assumption) | (have e_ := (Kd.S_reads' HO_4.out).1; omega))
     obtain ⟨ve375_0, rfl, ge375_0⟩ := hMe375
     have hv375_0 := hcc375 0 _ rfl
     rw [Nat.add_zero, show ((Kd.slice 3 (Kd.int .i64))).sz = 1 from rfl, Nat.mul_one] at hv375_0
     replace hv375_0 := Option.some.inj (hv375_0.symm.trans hx375_0)
     rw [hv375_0] at ge375_0
     have HL375_0 := Aside0.mk (show Kd.R (Kd.int .i64) 3 _ _ _ _ (rd_L3 t369 x6_1) from ge375_0)
     clear hv375_0 ge375_0
     clear hcc375 hce375
     have HR375_0 := Aside0.mk hi375_0
     have HC375_0 := Aside0.mk hl375_0
     clear hi375_0 hl375_0
     replace p375 := eq_true p375
     replace q375 := eq_true q375
     obtain ⟨Ao33, co33, eo33⟩ := Kd.S_slice HO_5.out
     (first | subst eo33 | (injection eo33 with f1_ f2_ f3_; have f4_ := f1_.symm; have f5_ := f3_.symm; clear f1_ f2_ f3_; subst f4_; subst f5_))
     have p376 : 0 ≤ (x6_1 : Int) := of_decide_eq_true (by first | (with_reducible assumption) | assumption)
     have q376 : x6_1 < (t372.length : Int) := of_decide_eq_true (by first | (with_reducible assumption) | assumption)
     obtain ⟨ad376, A376_0, c376_0, e376, hx376_0, hl376_0, hi376_0⟩ := at_L3 (Kd.S_reads' HO_5.out).2.2 x6_1 p376 q376
     cases e376
     obtain ⟨ce376, hce376, hMe376, hcc376⟩ := Kd.S_get HO_5.out [] x6_1 p376 (by first | exact q376 | exact of_decide_eq_true (by first | (with_reducible assumption) | assumption) | (have e_ := (Kd.S_reads' HO_5.out).1; omega))
     obtain ⟨ve376_0, rfl, ge376_0⟩ := hMe376
     have hv376_0 := hcc376 0 _ rfl
     rw [Nat.add_zero, show ((Kd.slice 3 (Kd.int .i64))).sz = 1 from rfl, Nat.mul_one] at hv376_0
     replace hv376_0 := Option.some.inj (hv376_0.symm.trans hx376_0)
     rw [hv376_0] at ge376_0
     have HL376_0 := Aside0.mk (show Kd.R (Kd.int .i64) 3 _ _ _ _ (rd_L3 t372 x6_1) from ge376_0)
     clear hv376_0 ge376_0
     clear hcc376 hce376
     have HR376_0 := Aside0.mk hi376_0
     have HC376_0 := Aside0.mk hl376_0
     clear hi376_0 hl376_0
     replace p376 := eq_true p376
     replace q376 := eq_true q376
     refine start_ (n := 20) (S := fun w' => w'.cell? (ad375.add (x6_1).toNat) = some (.slice A375_0 (rd_L3 t369 x6_1).length c375_0) ∧ w'.cell? (ad376.add (x6_1).toNat) = some (.slice A376_0 (rd_L3 t372 x6_1).length c376_0)) (ds := []) ba11_0 (by kernel_rfl) rfl rfl ⟨hx375_0, hx376_0⟩ (fun hHeld => ?_); refine with_tabW laws_FnTriangle.tab13 laws_FnTriangle.bits13 (fun HT_ HW_ => ?_)
     generalize wr.drew = w32 at HO_4 HO_5 HO_368001 BK367 HB HL375_0 HL376_0 HR375_0 HR376_0 hx375_0 hx376_0 hHeld ⊢
     refine pz_ 0 31 ba11_1 HT_ ?_
     refine pz_ 1 32 ba11_2 HT_ ?_
     refine pz_ 2 33 ba11_3 HT_ ?_
     refine pz_ 4 35 ba11_4 HT_ ?_
     refine pz_ 5 36 ba11_5 HT_ ?_
     refine pz_ 6 37 ba11_6 HT_ ?_
     refine pt_ 3 34 ba11_7 HT_ HW_ hHeld ?_
     refine pt_ 7 38 ba11_8 HT_ HW_ hHeld ?_
     refine one_ (i := 8) (N := some 39) ba11_9 rfl rfl (one_of HT_.out (by kernel_rfl)) (by decide) (fun K hK => ?_)
     refine gz_ Try.func28 #[.slice A375_0 (rd_L3 t369 x6_1).length c375_0, .slice A376_0 (rd_L3 t372 x6_1).length c376_0] ?_
     with_reducible refine (laws_same.calls k1 _ _ (rd_L3 t369 x6_1) _ _ (rd_L3 t372 x6_1) false _ ?side1 ?side2 ?side3 ?side4 A27.out).mono ?_
     (case side1 => repeat (first | exact (by repeat (first | (with_reducible exact HR375_0.out) | (with_reducible refine Kd.C_alloc ?_ _) | (with_reducible refine Kd.C_drewN ?_ _) | (with_reducible refine Kd.C_drew ?_) | exact HR375_0.out)) | (with_reducible refine Kd.C_alloc ?_ _) | (with_reducible refine Kd.C_drewN ?_ _) | (with_reducible refine Kd.C_drew ?_)))
     (case side2 => exact HC375_0.out)
     (case side3 => repeat (first | exact (by repeat (first | (with_reducible exact HR376_0.out) | (with_reducible refine Kd.C_alloc ?_ _) | (with_reducible refine Kd.C_drewN ?_ _) | (with_reducible refine Kd.C_drew ?_) | exact HR376_0.out)) | (with_reducible refine Kd.C_alloc ?_ _) | (with_reducible refine Kd.C_drewN ?_ _) | (with_reducible refine Kd.C_drew ?_)))
     (case side4 => exact HC376_0.out)
     rintro e w' ⟨rfl, ⟨nd, rfl⟩⟩
     refine ⟨_, rfl, ?_⟩
     refine hK.out _ _ ⟨hHeld.1, hHeld.2⟩ (fun hHeld => ?_)
     clear hK K
     refine nz_ 39 ?_
     refine pz_ 9 40 ba11_10 HT_ ?_
     refine pz_ 10 41 ba11_11 HT_ ?_
     refine pu_ 11 42 ba11_12 HT_ ?_
     refine pu_ 12 43 ba11_13 HT_ ?_
     refine pu_ 13 44 ba11_14 HT_ ?_
     refine pu_ 14 45 ba11_21 HT_ ?_
     refine pu_ 15 46 ba11_16 HT_ ?_
     refine pu_ 16 47 ba11_17 HT_ ?_
     refine pu_ 17 48 ba11_18 HT_ ?_
     refine pu_ 18 49 ba11_19 HT_ ?_
     refine pz_ 19 50 ba11_20 HT_ ?_
     refine done_ (done_of HT_.out (by kernel_rfl)) ?_
     try go_wp2
     go_meet
     case rel => exact ⟨_, (true), (by first | rfl | (simp; done) | (simp [*]; done)), H', ⟨by have := HK1.out; first | omega | exact Nat.le_refl _⟩, ⟨by (with_reducible repeat (first | apply Kd.S_alloc | apply Kd.S_drewN | apply Kd.S_drew)); exact HO_4.out⟩, ⟨by (with_reducible repeat (first | apply Kd.S_alloc | apply Kd.S_drewN | apply Kd.S_drew)); exact HO_5.out⟩, ⟨by (with_reducible repeat (first | apply Kd.R_alloc | apply Kd.R_drewN | apply Kd.R_drew)); exact HO_368001.out⟩, ⟨by (with_reducible repeat (first | refine blk_drewN ?_ _ | refine blk_drew ?_ | refine blk_alloc ?_ _)); exact BK367.out⟩, ⟨by repeat (first | (with_reducible first | exact HB.out | apply below_alloc | apply pw_below_drewN | apply below_drew1 | refine below_set ?_ GE367.out) | exact HB.out)⟩⟩
    subst c28
    rw [if_pos rfl] at H
    by_cases c29 : x6_1 < ((rd_L3 t369 x6_1).length : Int)
    rotate_left
    ·rw [if_neg c29] at H
     exact absurd H (by simp)
    rw [if_pos c29] at H
    have c29b0 : decide (x6_1 < ((rd_L3 t369 x6_1).length : Int)) = true := decide_eq_true c29
    clear c29
    have H' := Aside0.mk H
    clear H
    try go_wp2
    replace HO_4 := Aside0.mk (Kd.S_drew HO_4.out)
    replace HO_5 := Aside0.mk (Kd.S_drew HO_5.out)
    replace HO_368001 := Aside0.mk (Kd.R_drew HO_368001.out)
    replace BK367 := Aside0.mk (blk_drew BK367.out)
    replace HB := Aside0.mk (below_drew1 HB.out)
    have p375 : 0 ≤ (x6_1 : Int) := of_decide_eq_true (by first | (with_reducible assumption) | assumption)
    have q375 : x6_1 < (t369.length : Int) := of_decide_eq_true (by first | (with_reducible assumption) | assumption)
    obtain ⟨ad375, A375_0, c375_0, e375, hx375_0, hl375_0, hi375_0⟩ := at_L3 (Kd.S_reads' HO_4.out).2.2 x6_1 p375 q375
    cases e375
    obtain ⟨ce375, hce375, hMe375, hcc375⟩ := Kd.S_get HO_4.out [] x6_1 p375 (by first | exact q375 | exact of_decide_eq_true (by first | (with_reducible assumption) | assumption) | (have e_ := (Kd.S_reads' HO_4.out).1; omega))
    obtain ⟨ve375_0, rfl, ge375_0⟩ := hMe375
    have hv375_0 := hcc375 0 _ rfl
    rw [Nat.add_zero, show ((Kd.slice 3 (Kd.int .i64))).sz = 1 from rfl, Nat.mul_one] at hv375_0
    replace hv375_0 := Option.some.inj (hv375_0.symm.trans hx375_0)
    rw [hv375_0] at ge375_0
    have HL375_0 := Aside0.mk (show Kd.R (Kd.int .i64) 3 _ _ _ _ (rd_L3 t369 x6_1) from ge375_0)
    clear hv375_0 ge375_0
    clear hcc375 hce375
    have HR375_0 := Aside0.mk hi375_0
    have HC375_0 := Aside0.mk hl375_0
    clear hi375_0 hl375_0
    replace p375 := eq_true p375
    replace q375 := eq_true q375
    obtain ⟨Ao31, co31, eo31⟩ := Kd.S_slice HO_5.out
    (first | subst eo31 | (injection eo31 with f1_ f2_ f3_; have f4_ := f1_.symm; have f5_ := f3_.symm; clear f1_ f2_ f3_; subst f4_; subst f5_))
    have p376 : 0 ≤ (x6_1 : Int) := of_decide_eq_true (by first | (with_reducible assumption) | assumption)
    have q376 : x6_1 < (t372.length : Int) := of_decide_eq_true (by first | (with_reducible assumption) | assumption)
    obtain ⟨ad376, A376_0, c376_0, e376, hx376_0, hl376_0, hi376_0⟩ := at_L3 (Kd.S_reads' HO_5.out).2.2 x6_1 p376 q376
    cases e376
    obtain ⟨ce376, hce376, hMe376, hcc376⟩ := Kd.S_get HO_5.out [] x6_1 p376 (by first | exact q376 | exact of_decide_eq_true (by first | (with_reducible assumption) | assumption) | (have e_ := (Kd.S_reads' HO_5.out).1; omega))
    obtain ⟨ve376_0, rfl, ge376_0⟩ := hMe376
    have hv376_0 := hcc376 0 _ rfl
    rw [Nat.add_zero, show ((Kd.slice 3 (Kd.int .i64))).sz = 1 from rfl, Nat.mul_one] at hv376_0
    replace hv376_0 := Option.some.inj (hv376_0.symm.trans hx376_0)
    rw [hv376_0] at ge376_0
    have HL376_0 := Aside0.mk (show Kd.R (Kd.int .i64) 3 _ _ _ _ (rd_L3 t372 x6_1) from ge376_0)
    clear hv376_0 ge376_0
    clear hcc376 hce376
    have HR376_0 := Aside0.mk hi376_0
    have HC376_0 := Aside0.mk hl376_0
    clear hi376_0 hl376_0
    replace p376 := eq_true p376
    replace q376 := eq_true q376
    have p378 : 0 ≤ (x6_1 : Int) := of_decide_eq_true (by first | (with_reducible assumption) | assumption)
    have q378 : x6_1 < (t369.length : Int) := of_decide_eq_true (by first | (with_reducible assumption) | assumption)
    obtain ⟨ad378, A378_0, c378_0, e378, hx378_0, hl378_0, hi378_0⟩ := at_L3 (Kd.S_reads' HO_4.out).2.2 x6_1 p378 q378
    obtain rfl : ad375 = ad378 := (by injection e378)
    obtain ⟨ce378, hce378, hMe378, hcc378⟩ := Kd.S_get HO_4.out [] x6_1 p378 (by first | exact q378 | exact of_decide_eq_true (by first | (with_reducible assumption) | assumption) | (have e_ := (Kd.S_reads' HO_4.out).1; omega))
    obtain ⟨ve378_0, rfl, ge378_0⟩ := hMe378
    have hv378_0 := hcc378 0 _ rfl
    rw [Nat.add_zero, show ((Kd.slice 3 (Kd.int .i64))).sz = 1 from rfl, Nat.mul_one] at hv378_0
    replace hv378_0 := Option.some.inj (hv378_0.symm.trans hx378_0)
    rw [hv378_0] at ge378_0
    have HL378_0 := Aside0.mk (show Kd.R (Kd.int .i64) 3 _ _ _ _ (rd_L3 t369 x6_1) from ge378_0)
    clear hv378_0 ge378_0
    clear hcc378 hce378
    have HR378_0 := Aside0.mk hi378_0
    have HC378_0 := Aside0.mk hl378_0
    clear hi378_0 hl378_0
    replace p378 := eq_true p378
    replace q378 := eq_true q378
    have ea_ := Option.some.inj (hx375_0.symm.trans hx378_0)
    injection ea_ with ea_ en_ ec_
    subst ea_
    subst ec_
    clear en_
    refine start_ (n := 20) (S := fun w' => w'.cell? (ad375.add (x6_1).toNat) = some (.slice A375_0 (rd_L3 t369 x6_1).length c375_0) ∧ w'.cell? (ad376.add (x6_1).toNat) = some (.slice A376_0 (rd_L3 t372 x6_1).length c376_0) ∧ w'.cell? (ad375.add (x6_1).toNat) = some (.slice A375_0 (rd_L3 t369 x6_1).length c375_0)) (ds := []) ba11_0 (by kernel_rfl) rfl rfl ⟨hx375_0, hx376_0, hx378_0⟩ (fun hHeld => ?_); refine with_tabW laws_FnTriangle.tab13 laws_FnTriangle.bits13 (fun HT_ HW_ => ?_)
    generalize wr.drew = w30 at HO_4 HO_5 HO_368001 BK367 HB HL375_0 HL376_0 HL378_0 HR375_0 HR376_0 HR378_0 hx375_0 hx376_0 hx378_0 hHeld ⊢
    refine pz_ 0 31 ba11_1 HT_ ?_
    refine pz_ 1 32 ba11_2 HT_ ?_
    refine pz_ 2 33 ba11_3 HT_ ?_
    refine pz_ 4 35 ba11_4 HT_ ?_
    refine pz_ 5 36 ba11_5 HT_ ?_
    refine pz_ 6 37 ba11_6 HT_ ?_
    refine pt_ 3 34 ba11_7 HT_ HW_ hHeld ?_
    refine pt_ 7 38 ba11_8 HT_ HW_ hHeld ?_
    refine one_ (i := 8) (N := some 39) ba11_9 rfl rfl (one_of HT_.out (by kernel_rfl)) (by decide) (fun K hK => ?_)
    refine gz_ Try.func28 #[.slice A375_0 (rd_L3 t369 x6_1).length c375_0, .slice A376_0 (rd_L3 t372 x6_1).length c376_0] ?_
    with_reducible refine (laws_same.calls k1 _ _ (rd_L3 t369 x6_1) _ _ (rd_L3 t372 x6_1) true _ ?side1 ?side2 ?side3 ?side4 A27.out).mono ?_
    (case side1 => repeat (first | exact (by repeat (first | (with_reducible exact HR375_0.out) | (with_reducible refine Kd.C_alloc ?_ _) | (with_reducible refine Kd.C_drewN ?_ _) | (with_reducible refine Kd.C_drew ?_) | exact HR375_0.out)) | (with_reducible refine Kd.C_alloc ?_ _) | (with_reducible refine Kd.C_drewN ?_ _) | (with_reducible refine Kd.C_drew ?_)))
    (case side2 => exact HC375_0.out)
    (case side3 => repeat (first | exact (by repeat (first | (with_reducible exact HR376_0.out) | (with_reducible refine Kd.C_alloc ?_ _) | (with_reducible refine Kd.C_drewN ?_ _) | (with_reducible refine Kd.C_drew ?_) | exact HR376_0.out)) | (with_reducible refine Kd.C_alloc ?_ _) | (with_reducible refine Kd.C_drewN ?_ _) | (with_reducible refine Kd.C_drew ?_)))
    (case side4 => exact HC376_0.out)
    rintro e w' ⟨rfl, ⟨nd, rfl⟩⟩
    refine ⟨_, rfl, ?_⟩
    have p379 : 0 ≤ (x6_1 : Int) := of_decide_eq_true (by first | (with_reducible assumption) | assumption)
    have q379 : x6_1 < ((rd_L3 t369 x6_1).length : Int) := of_decide_eq_true (by first | (with_reducible assumption) | assumption)
    obtain ⟨ad379, e379, hx379_0⟩ := Kd.at_int (by repeat (first | (with_reducible exact HR378_0.out) | (with_reducible refine Kd.C_alloc ?_ _) | (with_reducible refine Kd.C_drewN ?_ _) | (with_reducible refine Kd.C_drew ?_) | exact HR378_0.out)) x6_1 p379 q379
    cases e379
    replace p379 := eq_true p379
    replace q379 := eq_true q379
    refine hK.out _ _ ⟨hHeld.1, hHeld.2.1, hHeld.2.2⟩ (fun hHeld => ?_)
    clear hK K
    refine nz_ 39 ?_
    refine pz_ 9 40 ba11_10 HT_ ?_
    refine pz_ 10 41 ba11_11 HT_ ?_
    refine pz_ 11 42 ba11_12 HT_ ?_
    refine pz_ 12 43 ba11_13 HT_ ?_
    refine pz_ 13 44 ba11_14 HT_ ?_
    refine pz_ 15 46 ba11_15 HT_ ?_
    refine po_ 14 45 ba11_16 HT_ (fun w' => w'.cell? (ad375.add (x6_1).toNat) = some (.slice (some ad379) (rd_L3 t369 x6_1).length c375_0) ∧ w'.cell? (ad376.add (x6_1).toNat) = some (.slice A376_0 (rd_L3 t372 x6_1).length c376_0) ∧ w'.cell? (ad375.add (x6_1).toNat) = some (.slice (some ad379) (rd_L3 t369 x6_1).length c375_0) ∧ w'.cell? (ad379.add (x6_1).toNat) = some (.int .i64 (rd (rd_L3 t369 x6_1) x6_1))) ⟨hHeld.1, hHeld.2.1, hHeld.2.2, hx379_0⟩ ?_
    refine pz_ 16 47 ba11_17 HT_ ?_
    refine po_ 17 48 ba11_18 HT_ (fun w' => w'.cell? (ad375.add (x6_1).toNat) = some (.slice (some ad379) (rd_L3 t369 x6_1).length c375_0) ∧ w'.cell? (ad376.add (x6_1).toNat) = some (.slice A376_0 (rd_L3 t372 x6_1).length c376_0) ∧ w'.cell? (ad375.add (x6_1).toNat) = some (.slice (some ad379) (rd_L3 t369 x6_1).length c375_0) ∧ w'.cell? (ad379.add (x6_1).toNat) = some (.int .i64 (rd (rd_L3 t369 x6_1) x6_1))) ⟨hHeld.1, hHeld.2.1, hHeld.2.2, hx379_0⟩ ?_
    refine pz_ 18 49 ba11_19 HT_ ?_
    refine pz_ 19 50 ba11_20 HT_ ?_
    refine done_ (done_of HT_.out (by kernel_rfl)) ?_
    try go_wp2
    go_meet
    case rel => exact ⟨_, (((rd (rd_L3 t369 x6_1) x6_1) != 0)), (by first | rfl | (simp; done) | (simp [*]; done)), H', ⟨by have := HK1.out; first | omega | exact Nat.le_refl _⟩, ⟨by (with_reducible repeat (first | apply Kd.S_alloc | apply Kd.S_drewN | apply Kd.S_drew)); exact HO_4.out⟩, ⟨by (with_reducible repeat (first | apply Kd.S_alloc | apply Kd.S_drewN | apply Kd.S_drew)); exact HO_5.out⟩, ⟨by (with_reducible repeat (first | apply Kd.R_alloc | apply Kd.R_drewN | apply Kd.R_drew)); exact HO_368001.out⟩, ⟨by (with_reducible repeat (first | refine blk_drewN ?_ _ | refine blk_drew ?_ | refine blk_alloc ?_ _)); exact BK367.out⟩, ⟨by repeat (first | (with_reducible first | exact HB.out | apply below_alloc | apply pw_below_drewN | apply below_drew1 | refine below_set ?_ GE367.out) | exact HB.out)⟩⟩
   case rest =>
    clear HC22
    try clear c2
    try clear p2
    try clear c3
    try clear p3
    try clear q3
    try clear hx3
    try clear c6
    try clear c9
    try clear c9b0
    try clear c9b1
    try clear c21
    try clear c21b0
    try clear c23
    try clear c24
    try clear c24b0
    try clear c25
    try clear c25b0
    try clear c26
    try clear c26b0
    try clear c27
    try clear c28
    try clear c29
    try clear c29b0
    try clear hcz12_0
    try clear hcz12_1
    try clear hcz15_0
    try clear hcz15_1
    try clear hcz17_0
    try clear hcz17_1
    try clear hcz20_0
    try clear hcz20_1
    try clear hcz23_0
    try clear hcz23_1
    try clear hfz12_0
    try clear hfz12_1
    try clear hfz15_0
    try clear hfz15_1
    try clear hfz17_0
    try clear hfz17_1
    try clear hfz20_0
    try clear hfz20_1
    try clear hfz23_0
    try clear hfz23_1
    try clear hx375_0
    try clear hx376_0
    try clear hx378_0
    try clear hx379_0
    try clear p2
    try clear p375
    try clear p376
    try clear p378
    try clear p379
    try clear q375
    try clear q376
    try clear q378
    try clear q379
    obtain ⟨kq, x50_21, rfl, HA, HJ21, HO_4, HO_5, HO_368001, BK367, HB⟩ := hcut
    cases kq with
    | zero => exact absurd HA.out (by simp [laws_FnTriangle.j1])
    | succ kj21 =>
     have H := HA.out
     clear HA
     simp only [laws_FnTriangle.j1] at H
     by_cases c34 : x50_21 = true
     ·subst c34
      rw [if_pos rfl] at H
      obtain rfl := Option.some.inj H
      go_wp2
      go_ret
      exact ⟨by first | rfl | (simp [errW_none, errW_some] <;> rfl) | (simp [*, errW_none, errW_some] <;> rfl), by repeat (first | (with_reducible first | exact HB.out | apply below_alloc | apply pw_below_drewN | apply below_drew1 | refine below_set ?_ GE367.out) | exact HB.out)⟩
     replace c34 := Bool.eq_false_iff.mpr c34
     subst c34
     rw [if_neg (show ¬ (false = true) by decide)] at H
     have H' := Aside0.mk H
     clear H
     go_wp2
     go_loopg [7] kj21 (fun kq v7 w' => ∃ (x7_3 : Int), v7 = .int .i64 x7_3 ∧ Aside0 (laws_FnTriangle.l1 kq t369 t372 x6_1 x7_3 t363 t364 = some r) ∧ Aside0 (kq ≤ kj21) ∧ Aside0 (Kd.S (Kd.slice 3 (Kd.int .i64)) 26 w' w.heap.size (fun k_ => some k_ ≠ (v373 : Value).ownBlock) (.slice Ao19 t369.length co19) t369) ∧ Aside0 (Kd.S (Kd.slice 3 (Kd.int .i64)) 26 w' w.heap.size (fun k_ => some k_ ≠ ((.slice Ao19 t369.length co19) : Value).ownBlock) v373 t372) ∧ Aside0 (Kd.R k76 76 w' w.heap.size (fun _ => True) (.slice Ao13 t364.length co13) t364) ∧ Aside0 (w'.heap[gb367]? = some (.cells #[.int .i64 t363, (.slice Ao13 t364.length co13)] 30 (0, 0))) ∧ Aside0 (Below w.heap.size w w'))
     case atStart => exact ⟨(0), (by first | rfl | (simp; done) | (simp [*]; done)), H', ⟨Nat.le_refl _⟩, ⟨by (with_reducible repeat (first | apply Kd.S_alloc | apply Kd.S_drewN | apply Kd.S_drew)); exact HO_4.out⟩, ⟨by (with_reducible repeat (first | apply Kd.S_alloc | apply Kd.S_drewN | apply Kd.S_drew)); exact HO_5.out⟩, ⟨by (with_reducible repeat (first | apply Kd.R_alloc | apply Kd.R_drewN | apply Kd.R_drew)); exact HO_368001.out⟩, ⟨by (with_reducible repeat (first | refine blk_drewN ?_ _ | refine blk_drew ?_ | refine blk_alloc ?_ _)); exact BK367.out⟩, ⟨by repeat (first | (with_reducible first | exact HB.out | apply below_alloc | apply pw_below_drewN | apply below_drew1 | refine below_set ?_ GE367.out) | exact HB.out)⟩⟩
     case round =>
      clear H'
      try clear c2
      try clear p2
      try clear c3
      try clear p3
      try clear q3
      try clear hx3
      try clear c6
      try clear c9
      try clear c9b0
      try clear c9b1
      try clear c21
      try clear c21b0
      try clear c23
      try clear c24
      try clear c24b0
      try clear c25
      try clear c25b0
      try clear c26
      try clear c26b0
      try clear c27
      try clear c28
      try clear c29
      try clear c29b0
      try clear c34
      try clear hcz12_0
      try clear hcz12_1
      try clear hcz15_0
      try clear hcz15_1
      try clear hcz17_0
      try clear hcz17_1
      try clear hcz20_0
      try clear hcz20_1
      try clear hcz23_0
      try clear hcz23_1
      try clear hfz12_0
      try clear hfz12_1
      try clear hfz15_0
      try clear hfz15_1
      try clear hfz17_0
      try clear hfz17_1
      try clear hfz20_0
      try clear hfz20_1
      try clear hfz23_0
      try clear hfz23_1
      try clear hx375_0
      try clear hx376_0
      try clear hx378_0
      try clear hx379_0
      try clear p2
      try clear p3
      try clear p375
      try clear p376
      try clear p378
      try clear p379
      try clear q3
      try clear q375
      try clear q376
      try clear q378
      try clear q379
      obtain ⟨x7_3, rfl, HA, HK3, HO_4, HO_5, HO_368001, BK367, HB⟩ := hrel
      cases gk with
      | zero => exact absurd HA.out (by simp [laws_FnTriangle.l1])
      | succ k3 =>
       have H := HA.out
       clear HA
       simp only [laws_FnTriangle.l1] at H
       by_cases c35 : x7_3 < t363
       rotate_left
       ·rw [if_neg c35] at H
        have c35b0 : decide (x7_3 < t363) = false := decide_eq_false c35
        clear c35
        have H' := Aside0.mk H
        clear H
        have hcz69_0 := cz_ BK367 0 (.int .i64 t363)
        have hcz69_1 := cz_ BK367 1 (.slice Ao13 t364.length co13)
        have hfz69_0 := blk_frozen BK367.out 0
        have hfz69_1 := blk_frozen BK367.out 1
        go_wp2
        go_roundg k3
        case measure => have := HK1.out; have := HJ21.out; have := HK3.out; omega
        case rel => exact ⟨(wrap64 (x6_1 + 1)), (by first | rfl | (simp; done) | (simp [*]; done)), H', ⟨by have := HK1.out; have := HJ21.out; have := HK3.out; omega⟩, ⟨by (with_reducible repeat (first | apply Kd.S_alloc | apply Kd.S_drewN | apply Kd.S_drew)); exact HO_4.out⟩, ⟨by (with_reducible repeat (first | apply Kd.S_alloc | apply Kd.S_drewN | apply Kd.S_drew)); exact HO_5.out⟩, ⟨by (with_reducible repeat (first | apply Kd.R_alloc | apply Kd.R_drewN | apply Kd.R_drew)); exact HO_368001.out⟩, ⟨by (with_reducible repeat (first | refine blk_drewN ?_ _ | refine blk_drew ?_ | refine blk_alloc ?_ _)); exact BK367.out⟩, ⟨by repeat (first | (with_reducible first | exact HB.out | apply below_alloc | apply pw_below_drewN | apply below_drew1 | refine below_set ?_ GE367.out) | exact HB.out)⟩⟩
       rw [if_pos c35] at H
       have c35b0 : decide (x7_3 < t363) = true := decide_eq_true c35
       clear c35
       replace H := Option.bind_eq_some_iff.mp H
       obtain ⟨t380, A360, H⟩ := H
       have A36 := Aside0.mk A360
       clear A360
       by_cases c37 : 0 ≤ x6_1
       rotate_left
       ·rw [if_neg c37] at H
        exact absurd H (by simp)
       rw [if_pos c37] at H
       have c37b0 : decide (0 ≤ x6_1) = true := decide_eq_true c37
       clear c37
       by_cases c38 : x6_1 < (t369.length : Int)
       rotate_left
       ·rw [if_neg c38] at H
        exact absurd H (by simp)
       rw [if_pos c38] at H
       have c38b0 : decide (x6_1 < (t369.length : Int)) = true := decide_eq_true c38
       clear c38
       by_cases c39 : 0 ≤ x7_3
       rotate_left
       ·rw [if_neg c39] at H
        exact absurd H (by simp)
       rw [if_pos c39] at H
       have c39b0 : decide (0 ≤ x7_3) = true := decide_eq_true c39
       clear c39
       by_cases c40 : x7_3 < ((rd_L3 t369 x6_1).length : Int)
       rotate_left
       ·rw [if_neg c40] at H
        exact absurd H (by simp)
       rw [if_pos c40] at H
       have c40b0 : decide (x7_3 < ((rd_L3 t369 x6_1).length : Int)) = true := decide_eq_true c40
       clear c40
       by_cases c41 : t380 < (rd (rd_L3 t369 x6_1) x7_3)
       ·rw [if_pos c41] at H
        have c41b0 : decide (t380 < (rd (rd_L3 t369 x6_1) x7_3)) = true := decide_eq_true c41
        clear c41
        obtain rfl := Option.some.inj H
        have hcz42_0 := cz_ BK367 0 (.int .i64 t363)
        have hcz42_1 := cz_ BK367 1 (.slice Ao13 t364.length co13)
        have hfz42_0 := blk_frozen BK367.out 0
        have hfz42_1 := blk_frozen BK367.out 1
        try go_wp2
        replace HO_4 := Aside0.mk (Kd.S_drew HO_4.out)
        replace HO_5 := Aside0.mk (Kd.S_drew HO_5.out)
        replace HO_368001 := Aside0.mk (Kd.R_drew HO_368001.out)
        replace BK367 := Aside0.mk (blk_drew BK367.out)
        replace HB := Aside0.mk (below_drew1 HB.out)
        have p381 : 0 ≤ (x6_1 : Int) := of_decide_eq_true (by first | (with_reducible assumption) | assumption)
        have q381 : x6_1 < (t369.length : Int) := of_decide_eq_true (by first | (with_reducible assumption) | assumption)
        obtain ⟨ad381, A381_0, c381_0, e381, hx381_0, hl381_0, hi381_0⟩ := at_L3 (Kd.S_reads' HO_4.out).2.2 x6_1 p381 q381
        cases e381
        obtain ⟨ce381, hce381, hMe381, hcc381⟩ := Kd.S_get HO_4.out [] x6_1 p381 (by first | exact q381 | exact of_decide_eq_true (by first | (with_reducible assumption) | assumption) | (have e_ := (Kd.S_reads' HO_4.out).1; omega))
        obtain ⟨ve381_0, rfl, ge381_0⟩ := hMe381
        have hv381_0 := hcc381 0 _ rfl
        rw [Nat.add_zero, show ((Kd.slice 3 (Kd.int .i64))).sz = 1 from rfl, Nat.mul_one] at hv381_0
        replace hv381_0 := Option.some.inj (hv381_0.symm.trans hx381_0)
        rw [hv381_0] at ge381_0
        have HL381_0 := Aside0.mk (show Kd.R (Kd.int .i64) 3 _ _ _ _ (rd_L3 t369 x6_1) from ge381_0)
        clear hv381_0 ge381_0
        clear hcc381 hce381
        have HR381_0 := Aside0.mk hi381_0
        have HC381_0 := Aside0.mk hl381_0
        clear hi381_0 hl381_0
        replace p381 := eq_true p381
        replace q381 := eq_true q381
        have p382 : 0 ≤ (x7_3 : Int) := of_decide_eq_true (by first | (with_reducible assumption) | assumption)
        have q382 : x7_3 < ((rd_L3 t369 x6_1).length : Int) := of_decide_eq_true (by first | (with_reducible assumption) | assumption)
        obtain ⟨ad382, e382, hx382_0⟩ := Kd.at_int (by repeat (first | (with_reducible exact HR381_0.out) | (with_reducible refine Kd.C_alloc ?_ _) | (with_reducible refine Kd.C_drewN ?_ _) | (with_reducible refine Kd.C_drew ?_) | exact HR381_0.out)) x7_3 p382 q382
        cases e382
        replace p382 := eq_true p382
        replace q382 := eq_true q382
        refine start_ (n := 12) (S := fun w' => w'.cell? ⟨gb367, 0, none⟩ = some (.int .i64 t363) ∧ w'.cell? ⟨gb367, 1, none⟩ = some (.slice Ao13 t364.length co13) ∧ w'.cell? (ad381.add (x6_1).toNat) = some (.slice (some ad382) (rd_L3 t369 x6_1).length c381_0) ∧ w'.cell? (ad382.add (x7_3).toNat) = some (.int .i64 (rd (rd_L3 t369 x6_1) x7_3))) (ds := []) ba11_22 (by kernel_rfl) rfl rfl ⟨(blk_cell BK367.out 0).trans rfl, (blk_cell BK367.out 1).trans rfl, hx381_0, hx382_0⟩ (fun hHeld => ?_); refine with_tabW laws_FnTriangle.tab18 laws_FnTriangle.bits18 (fun HT_ HW_ => ?_)
        generalize wr.drew = w43 at HO_4 HO_5 HO_368001 BK367 HB HL381_0 HR381_0 hx381_0 hx382_0 hHeld ⊢
        refine pz_ 1 58 ba11_23 HT_ ?_
        refine pz_ 2 59 ba11_24 HT_ ?_
        refine pz_ 4 61 ba11_25 HT_ ?_
        refine pz_ 5 62 ba11_26 HT_ ?_
        refine pz_ 6 63 ba11_27 HT_ ?_
        refine pz_ 8 65 ba11_28 HT_ ?_
        refine pt_ 0 57 ba11_29 HT_ HW_ hHeld ?_
        refine pt_ 7 64 ba11_30 HT_ HW_ hHeld ?_
        refine pz_ 9 66 ba11_31 HT_ ?_
        refine pt_ 10 67 ba11_32 HT_ HW_ hHeld ?_
        refine one_ (i := 3) (N := some 60) ba11_33 rfl rfl (one_of HT_.out (by kernel_rfl)) (by decide) (fun K hK => ?_)
        refine gz_ Try.func29 #[.agg #[.int .i64 t363, .slice Ao13 t364.length co13], .int .i64 x6_1, .int .i64 x7_3] ?_
        with_reducible refine (impl_CostOf.calls k3 t363 _ _ t364 x6_1 x7_3 t380 _ ?side1 ?side2 A36.out).mono ?_
        (case side1 => exact rc_ HO_368001)
        (case side2 => exact (Kd.R_reads' HO_368001.out).2.1)
        rintro e w44 ⟨rfl, hb⟩
        have HS2_ := (hb.cell (World.block_lt_of_cell? _ _ (hHeld.2.2.1))).trans (hHeld.2.2.1)
        have HS3_ := (hb.cell (World.block_lt_of_cell? _ _ (hHeld.2.2.2))).trans (hHeld.2.2.2)
        refine ⟨_, rfl, ?_⟩
        replace HO_4 := Aside0.mk (Kd.S_below (by (with_reducible repeat (first | apply Kd.S_alloc | apply Kd.S_drewN | apply Kd.S_drew)); exact HO_4.out) hb)
        replace HO_5 := Aside0.mk (Kd.S_below (by (with_reducible repeat (first | apply Kd.S_alloc | apply Kd.S_drewN | apply Kd.S_drew)); exact HO_5.out) hb)
        replace HO_368001 := rb_ HO_368001 hb
        replace HL381_0 := Aside0.mk (Kd.R_below (by (with_reducible repeat (first | apply Kd.R_alloc | apply Kd.R_drewN | apply Kd.R_drew)); exact HL381_0.out) hb)
        replace BK367 := Aside0.mk (bb_ BK367 hb)
        replace HR381_0 := Aside0.mk (Kd.C_below (by repeat (first | (with_reducible exact HR381_0.out) | (with_reducible refine Kd.C_alloc ?_ _) | (with_reducible refine Kd.C_drewN ?_ _) | (with_reducible refine Kd.C_drew ?_) | exact HR381_0.out)) hb)
        replace HB := Aside0.mk (bt_ HB hb)
        (try clear hb)
        (try clear hb2)
        (try clear hk)
        (try clear hi)
        refine hK.out _ _ ⟨(blk_cell BK367.out 0).trans rfl, (blk_cell BK367.out 1).trans rfl, HS2_, HS3_⟩ (fun hHeld => ?_)
        clear hK K
        refine nz_ 60 ?_
        refine pz_ 11 68 ba11_34 HT_ ?_
        refine done_ (done_of HT_.out (by kernel_rfl)) ?_
        try go_wp2
        go_ret
        exact ⟨by first | rfl | (simp [errW_none, errW_some] <;> rfl) | (simp [*, errW_none, errW_some] <;> rfl), by repeat (first | (with_reducible first | exact HB.out | apply below_alloc | apply pw_below_drewN | apply below_drew1 | refine below_set ?_ GE367.out) | exact HB.out)⟩
       rw [if_neg c41] at H
       have c41b0 : decide (t380 < (rd (rd_L3 t369 x6_1) x7_3)) = false := decide_eq_false c41
       clear c41
       have H' := Aside0.mk H
       clear H
       have hcz45_0 := cz_ BK367 0 (.int .i64 t363)
       have hcz45_1 := cz_ BK367 1 (.slice Ao13 t364.length co13)
       have hfz45_0 := blk_frozen BK367.out 0
       have hfz45_1 := blk_frozen BK367.out 1
       try go_wp2
       replace HO_4 := Aside0.mk (Kd.S_drew HO_4.out)
       replace HO_5 := Aside0.mk (Kd.S_drew HO_5.out)
       replace HO_368001 := Aside0.mk (Kd.R_drew HO_368001.out)
       replace BK367 := Aside0.mk (blk_drew BK367.out)
       replace HB := Aside0.mk (below_drew1 HB.out)
       have p381 : 0 ≤ (x6_1 : Int) := of_decide_eq_true (by first | (with_reducible assumption) | assumption)
       have q381 : x6_1 < (t369.length : Int) := of_decide_eq_true (by first | (with_reducible assumption) | assumption)
       obtain ⟨ad381, A381_0, c381_0, e381, hx381_0, hl381_0, hi381_0⟩ := at_L3 (Kd.S_reads' HO_4.out).2.2 x6_1 p381 q381
       cases e381
       obtain ⟨ce381, hce381, hMe381, hcc381⟩ := Kd.S_get HO_4.out [] x6_1 p381 (by first | exact q381 | exact of_decide_eq_true (by first | (with_reducible assumption) | assumption) | (have e_ := (Kd.S_reads' HO_4.out).1; omega))
       obtain ⟨ve381_0, rfl, ge381_0⟩ := hMe381
       have hv381_0 := hcc381 0 _ rfl
       rw [Nat.add_zero, show ((Kd.slice 3 (Kd.int .i64))).sz = 1 from rfl, Nat.mul_one] at hv381_0
       replace hv381_0 := Option.some.inj (hv381_0.symm.trans hx381_0)
       rw [hv381_0] at ge381_0
       have HL381_0 := Aside0.mk (show Kd.R (Kd.int .i64) 3 _ _ _ _ (rd_L3 t369 x6_1) from ge381_0)
       clear hv381_0 ge381_0
       clear hcc381 hce381
       have HR381_0 := Aside0.mk hi381_0
       have HC381_0 := Aside0.mk hl381_0
       clear hi381_0 hl381_0
       replace p381 := eq_true p381
       replace q381 := eq_true q381
       have p382 : 0 ≤ (x7_3 : Int) := of_decide_eq_true (by first | (with_reducible assumption) | assumption)
       have q382 : x7_3 < ((rd_L3 t369 x6_1).length : Int) := of_decide_eq_true (by first | (with_reducible assumption) | assumption)
       obtain ⟨ad382, e382, hx382_0⟩ := Kd.at_int (by repeat (first | (with_reducible exact HR381_0.out) | (with_reducible refine Kd.C_alloc ?_ _) | (with_reducible refine Kd.C_drewN ?_ _) | (with_reducible refine Kd.C_drew ?_) | exact HR381_0.out)) x7_3 p382 q382
       cases e382
       replace p382 := eq_true p382
       replace q382 := eq_true q382
       refine start_ (n := 12) (S := fun w' => w'.cell? ⟨gb367, 0, none⟩ = some (.int .i64 t363) ∧ w'.cell? ⟨gb367, 1, none⟩ = some (.slice Ao13 t364.length co13) ∧ w'.cell? (ad381.add (x6_1).toNat) = some (.slice (some ad382) (rd_L3 t369 x6_1).length c381_0) ∧ w'.cell? (ad382.add (x7_3).toNat) = some (.int .i64 (rd (rd_L3 t369 x6_1) x7_3))) (ds := []) ba11_22 (by kernel_rfl) rfl rfl ⟨(blk_cell BK367.out 0).trans rfl, (blk_cell BK367.out 1).trans rfl, hx381_0, hx382_0⟩ (fun hHeld => ?_); refine with_tabW laws_FnTriangle.tab18 laws_FnTriangle.bits18 (fun HT_ HW_ => ?_)
       generalize wr.drew = w46 at HO_4 HO_5 HO_368001 BK367 HB HL381_0 HR381_0 hx381_0 hx382_0 hHeld ⊢
       refine pz_ 1 58 ba11_23 HT_ ?_
       refine pz_ 2 59 ba11_24 HT_ ?_
       refine pz_ 4 61 ba11_25 HT_ ?_
       refine pz_ 5 62 ba11_26 HT_ ?_
       refine pz_ 6 63 ba11_27 HT_ ?_
       refine pz_ 8 65 ba11_28 HT_ ?_
       refine pt_ 0 57 ba11_29 HT_ HW_ hHeld ?_
       refine pt_ 7 64 ba11_30 HT_ HW_ hHeld ?_
       refine pz_ 9 66 ba11_31 HT_ ?_
       refine pt_ 10 67 ba11_32 HT_ HW_ hHeld ?_
       refine one_ (i := 3) (N := some 60) ba11_33 rfl rfl (one_of HT_.out (by kernel_rfl)) (by decide) (fun K hK => ?_)
       refine gz_ Try.func29 #[.agg #[.int .i64 t363, .slice Ao13 t364.length co13], .int .i64 x6_1, .int .i64 x7_3] ?_
       with_reducible refine (impl_CostOf.calls k3 t363 _ _ t364 x6_1 x7_3 t380 _ ?side1 ?side2 A36.out).mono ?_
       (case side1 => exact rc_ HO_368001)
       (case side2 => exact (Kd.R_reads' HO_368001.out).2.1)
       rintro e w47 ⟨rfl, hb⟩
       have HS2_ := (hb.cell (World.block_lt_of_cell? _ _ (hHeld.2.2.1))).trans (hHeld.2.2.1)
       have HS3_ := (hb.cell (World.block_lt_of_cell? _ _ (hHeld.2.2.2))).trans (hHeld.2.2.2)
       refine ⟨_, rfl, ?_⟩
       replace HO_4 := Aside0.mk (Kd.S_below (by (with_reducible repeat (first | apply Kd.S_alloc | apply Kd.S_drewN | apply Kd.S_drew)); exact HO_4.out) hb)
       replace HO_5 := Aside0.mk (Kd.S_below (by (with_reducible repeat (first | apply Kd.S_alloc | apply Kd.S_drewN | apply Kd.S_drew)); exact HO_5.out) hb)
       replace HO_368001 := rb_ HO_368001 hb
       replace HL381_0 := Aside0.mk (Kd.R_below (by (with_reducible repeat (first | apply Kd.R_alloc | apply Kd.R_drewN | apply Kd.R_drew)); exact HL381_0.out) hb)
       replace BK367 := Aside0.mk (bb_ BK367 hb)
       replace HR381_0 := Aside0.mk (Kd.C_below (by repeat (first | (with_reducible exact HR381_0.out) | (with_reducible refine Kd.C_alloc ?_ _) | (with_reducible refine Kd.C_drewN ?_ _) | (with_reducible refine Kd.C_drew ?_) | exact HR381_0.out)) hb)
       replace HB := Aside0.mk (bt_ HB hb)
       (try clear hb)
       (try clear hb2)
       (try clear hk)
       (try clear hi)
       refine hK.out _ _ ⟨(blk_cell BK367.out 0).trans rfl, (blk_cell BK367.out 1).trans rfl, HS2_, HS3_⟩ (fun hHeld => ?_)
       clear hK K
       refine nz_ 60 ?_
       refine pz_ 11 68 ba11_34 HT_ ?_
       refine done_ (done_of HT_.out (by kernel_rfl)) ?_
       try go_wp2
       go_loopg [8] k3 (fun kq v8 w' => ∃ (x8_4 : Int), v8 = .int .i64 x8_4 ∧ Aside0 (laws_FnTriangle.l2 kq t369 t372 x6_1 x7_3 x8_4 t363 t364 = some r) ∧ Aside0 (kq ≤ k3) ∧ Aside0 (Kd.S (Kd.slice 3 (Kd.int .i64)) 26 w' w.heap.size (fun k_ => some k_ ≠ (v373 : Value).ownBlock) (.slice (some ad381) t369.length co19) t369) ∧ Aside0 (Kd.S (Kd.slice 3 (Kd.int .i64)) 26 w' w.heap.size (fun k_ => some k_ ≠ ((.slice (some ad381) t369.length co19) : Value).ownBlock) v373 t372) ∧ Aside0 (Kd.R k76 76 w' w.heap.size (fun _ => True) (.slice Ao13 t364.length co13) t364) ∧ Aside0 (w'.heap[gb367]? = some (.cells #[.int .i64 t363, (.slice Ao13 t364.length co13)] 30 (0, 0))) ∧ Aside0 (Kd.C (Kd.int .i64) w' (some ad382) (rd_L3 t369 x6_1).length (rd_L3 t369 x6_1)) ∧ Aside0 (Below w.heap.size w w'))
       case atStart => exact ⟨(0), (by first | rfl | (simp; done) | (simp [*]; done)), H', ⟨Nat.le_refl _⟩, ⟨by (with_reducible repeat (first | apply Kd.S_alloc | apply Kd.S_drewN | apply Kd.S_drew)); exact HO_4.out⟩, ⟨by (with_reducible repeat (first | apply Kd.S_alloc | apply Kd.S_drewN | apply Kd.S_drew)); exact HO_5.out⟩, ⟨by (with_reducible repeat (first | apply Kd.R_alloc | apply Kd.R_drewN | apply Kd.R_drew)); exact HO_368001.out⟩, ⟨by (with_reducible repeat (first | refine blk_drewN ?_ _ | refine blk_drew ?_ | refine blk_alloc ?_ _)); exact BK367.out⟩, ⟨by repeat (first | (with_reducible exact HR381_0.out) | (with_reducible refine Kd.C_alloc ?_ _) | (with_reducible refine Kd.C_drewN ?_ _) | (with_reducible refine Kd.C_drew ?_) | exact HR381_0.out)⟩, ⟨by repeat (first | (with_reducible first | exact HB.out | apply below_alloc | apply pw_below_drewN | apply below_drew1 | refine below_set ?_ GE367.out) | exact HB.out)⟩⟩
       case round =>
        clear H'
        try clear c2
        try clear p2
        try clear c3
        try clear p3
        try clear q3
        try clear hx3
        try clear c4
        try clear c6
        try clear c9
        try clear c9b0
        try clear c9b1
        try clear c21
        try clear c21b0
        try clear c23
        try clear c24
        try clear c24b0
        try clear c25
        try clear c25b0
        try clear c26
        try clear c26b0
        try clear c27
        try clear c28
        try clear c29
        try clear c29b0
        try clear c34
        try clear c35
        try clear c35b0
        try clear c37
        try clear c37b0
        try clear p37
        try clear q37
        try clear hx37
        try clear c38
        try clear c38b0
        try clear p38
        try clear q38
        try clear hx38
        try clear c39
        try clear c39b0
        try clear c40
        try clear c40b0
        try clear c41
        try clear c41b0
        try clear hcz12_0
        try clear hcz12_1
        try clear hcz15_0
        try clear hcz15_1
        try clear hcz17_0
        try clear hcz17_1
        try clear hcz20_0
        try clear hcz20_1
        try clear hcz23_0
        try clear hcz23_1
        try clear hcz42_0
        try clear hcz42_1
        try clear hcz45_0
        try clear hcz45_1
        try clear hfz12_0
        try clear hfz12_1
        try clear hfz15_0
        try clear hfz15_1
        try clear hfz17_0
        try clear hfz17_1
        try clear hfz20_0
        try clear hfz20_1
        try clear hfz23_0
        try clear hfz23_1
        try clear hfz42_0
        try clear hfz42_1
        try clear hfz45_0
        try clear hfz45_1
        try clear hx375_0
        try clear hx376_0
        try clear hx378_0
        try clear hx379_0
        try clear hx381_0
        try clear hx382_0
        try clear p2
        try clear p3
        try clear p375
        try clear p376
        try clear p378
        try clear p379
        try clear p381
        try clear p382
        try clear q3
        try clear q375
        try clear q376
        try clear q378
        try clear q379
        try clear q381
        try clear q382
        obtain ⟨x8_4, rfl, HA, HK4, HO_4, HO_5, HO_368001, BK367, HR381_0, HB⟩ := hrel
        cases gk with
        | zero => exact absurd HA.out (by simp [laws_FnTriangle.l2])
        | succ k4 =>
         have H := HA.out
         clear HA
         simp only [laws_FnTriangle.l2] at H
         by_cases c48 : x8_4 < t363
         rotate_left
         ·rw [if_neg c48] at H
          have c48b0 : decide (x8_4 < t363) = false := decide_eq_false c48
          clear c48
          have H' := Aside0.mk H
          clear H
          have hcz68_0 := cz_ BK367 0 (.int .i64 t363)
          have hcz68_1 := cz_ BK367 1 (.slice Ao13 t364.length co13)
          have hfz68_0 := blk_frozen BK367.out 0
          have hfz68_1 := blk_frozen BK367.out 1
          go_wp2
          go_roundg k4
          case measure => have := HK1.out; have := HJ21.out; have := HK3.out; have := HK4.out; omega
          case rel => exact ⟨(wrap64 (x7_3 + 1)), (by first | rfl | (simp; done) | (simp [*]; done)), H', ⟨by have := HK1.out; have := HJ21.out; have := HK3.out; have := HK4.out; omega⟩, ⟨by (with_reducible repeat (first | apply Kd.S_alloc | apply Kd.S_drewN | apply Kd.S_drew)); exact HO_4.out⟩, ⟨by (with_reducible repeat (first | apply Kd.S_alloc | apply Kd.S_drewN | apply Kd.S_drew)); exact HO_5.out⟩, ⟨by (with_reducible repeat (first | apply Kd.R_alloc | apply Kd.R_drewN | apply Kd.R_drew)); exact HO_368001.out⟩, ⟨by (with_reducible repeat (first | refine blk_drewN ?_ _ | refine blk_drew ?_ | refine blk_alloc ?_ _)); exact BK367.out⟩, ⟨by repeat (first | (with_reducible first | exact HB.out | apply below_alloc | apply pw_below_drewN | apply below_drew1 | refine below_set ?_ GE367.out) | exact HB.out)⟩⟩
         rw [if_pos c48] at H
         have c48b0 : decide (x8_4 < t363) = true := decide_eq_true c48
         clear c48
         by_cases c49 : 0 ≤ x6_1
         rotate_left
         ·rw [if_neg c49] at H
          exact absurd H (by simp)
         rw [if_pos c49] at H
         have c49b0 : decide (0 ≤ x6_1) = true := decide_eq_true c49
         clear c49
         by_cases c50 : x6_1 < (t369.length : Int)
         rotate_left
         ·rw [if_neg c50] at H
          exact absurd H (by simp)
         rw [if_pos c50] at H
         have c50b0 : decide (x6_1 < (t369.length : Int)) = true := decide_eq_true c50
         clear c50
         by_cases c51 : 0 ≤ x8_4
         rotate_left
         ·rw [if_neg c51] at H
          exact absurd H (by simp)
         rw [if_pos c51] at H
         have c51b0 : decide (0 ≤ x8_4) = true := decide_eq_true c51
         clear c51
         by_cases c52 : x8_4 < ((rd_L3 t369 x6_1).length : Int)
         rotate_left
         ·rw [if_neg c52] at H
          exact absurd H (by simp)
         rw [if_pos c52] at H
         have c52b0 : decide (x8_4 < ((rd_L3 t369 x6_1).length : Int)) = true := decide_eq_true c52
         clear c52
         by_cases c53 : (rd (rd_L3 t369 x6_1) x8_4) < 1000000
         rotate_left
         ·rw [if_neg c53] at H
          have c53b0 : decide ((rd (rd_L3 t369 x6_1) x8_4) < 1000000) = false := decide_eq_false c53
          clear c53
          have H' := Aside0.mk H
          clear H
          have hcz66_0 := cz_ BK367 0 (.int .i64 t363)
          have hcz66_1 := cz_ BK367 1 (.slice Ao13 t364.length co13)
          have hfz66_0 := blk_frozen BK367.out 0
          have hfz66_1 := blk_frozen BK367.out 1
          try go_wp2
          replace HO_4 := Aside0.mk (Kd.S_drew HO_4.out)
          replace HO_5 := Aside0.mk (Kd.S_drew HO_5.out)
          replace HO_368001 := Aside0.mk (Kd.R_drew HO_368001.out)
          replace BK367 := Aside0.mk (blk_drew BK367.out)
          replace HR381_0 := Aside0.mk (Kd.C_drew HR381_0.out)
          replace HB := Aside0.mk (below_drew1 HB.out)
          have p383 : 0 ≤ (x6_1 : Int) := of_decide_eq_true (by first | (with_reducible assumption) | assumption)
          have q383 : x6_1 < (t369.length : Int) := of_decide_eq_true (by first | (with_reducible assumption) | assumption)
          obtain ⟨ad383, A383_0, c383_0, e383, hx383_0, hl383_0, hi383_0⟩ := at_L3 (Kd.S_reads' HO_4.out).2.2 x6_1 p383 q383
          obtain rfl : ad381 = ad383 := (by injection e383)
          obtain ⟨ce383, hce383, hMe383, hcc383⟩ := Kd.S_get HO_4.out [] x6_1 p383 (by first | exact q383 | exact of_decide_eq_true (by first | (with_reducible assumption) | assumption) | (have e_ := (Kd.S_reads' HO_4.out).1; omega))
          obtain ⟨ve383_0, rfl, ge383_0⟩ := hMe383
          have hv383_0 := hcc383 0 _ rfl
          rw [Nat.add_zero, show ((Kd.slice 3 (Kd.int .i64))).sz = 1 from rfl, Nat.mul_one] at hv383_0
          replace hv383_0 := Option.some.inj (hv383_0.symm.trans hx383_0)
          rw [hv383_0] at ge383_0
          have HL383_0 := Aside0.mk (show Kd.R (Kd.int .i64) 3 _ _ _ _ (rd_L3 t369 x6_1) from ge383_0)
          clear hv383_0 ge383_0
          clear hcc383 hce383
          have HR383_0 := Aside0.mk hi383_0
          have HC383_0 := Aside0.mk hl383_0
          clear hi383_0 hl383_0
          replace p383 := eq_true p383
          replace q383 := eq_true q383
          have p384 : 0 ≤ (x8_4 : Int) := of_decide_eq_true (by first | (with_reducible assumption) | assumption)
          have q384 : x8_4 < ((rd_L3 t369 x6_1).length : Int) := of_decide_eq_true (by first | (with_reducible assumption) | assumption)
          obtain ⟨ad384, e384, hx384_0⟩ := Kd.at_int (by repeat (first | (with_reducible exact HR383_0.out) | (with_reducible refine Kd.C_alloc ?_ _) | (with_reducible refine Kd.C_drewN ?_ _) | (with_reducible refine Kd.C_drew ?_) | exact HR383_0.out)) x8_4 p384 q384
          cases e384
          replace p384 := eq_true p384
          replace q384 := eq_true q384
          refine start_ (n := 43) (S := fun w' => w'.cell? (ad381.add (x6_1).toNat) = some (.slice (some ad384) (rd_L3 t369 x6_1).length c383_0) ∧ w'.cell? (ad384.add (x8_4).toNat) = some (.int .i64 (rd (rd_L3 t369 x6_1) x8_4))) (ds := []) ba11_35 (by kernel_rfl) rfl rfl ⟨hx383_0, hx384_0⟩ (fun hHeld => ?_); refine with_tabW laws_FnTriangle.tab23 laws_FnTriangle.bits23 (fun HT_ HW_ => ?_)
          generalize wr.drew = w67 at HO_4 HO_5 HO_368001 BK367 HR381_0 HB HL383_0 HR383_0 hx383_0 hx384_0 hHeld ⊢
          refine pz_ 0 75 ba11_36 HT_ ?_
          refine pz_ 1 76 ba11_37 HT_ ?_
          refine pz_ 2 77 ba11_38 HT_ ?_
          refine pz_ 4 79 ba11_39 HT_ ?_
          refine pt_ 3 78 ba11_40 HT_ HW_ hHeld ?_
          refine pz_ 5 80 ba11_41 HT_ ?_
          refine pt_ 6 81 ba11_42 HT_ HW_ hHeld ?_
          refine pz_ 7 82 ba11_43 HT_ ?_
          refine pz_ 8 83 ba11_44 HT_ ?_
          refine pu_ 9 84 ba11_45 HT_ ?_
          refine pu_ 10 85 ba11_46 HT_ ?_
          refine pu_ 11 86 ba11_47 HT_ ?_
          refine pu_ 12 87 ba11_94 HT_ ?_
          refine pu_ 13 88 ba11_49 HT_ ?_
          refine pu_ 14 89 ba11_50 HT_ ?_
          refine pu_ 15 90 ba11_51 HT_ ?_
          refine pu_ 16 91 ba11_52 HT_ ?_
          refine pz_ 17 92 ba11_53 HT_ ?_
          refine pz_ 18 93 ba11_54 HT_ ?_
          refine pu_ 19 94 ba11_55 HT_ ?_
          refine pu_ 20 95 ba11_56 HT_ ?_
          refine pu_ 21 96 ba11_57 HT_ ?_
          refine pu_ 22 97 ba11_79 HT_ ?_
          refine pu_ 23 98 ba11_80 HT_ ?_
          refine pu_ 24 99 ba11_81 HT_ ?_
          refine pu_ 25 100 ba11_82 HT_ ?_
          refine pu_ 26 101 ba11_83 HT_ ?_
          refine pu_ 27 102 ba11_84 HT_ ?_
          refine pu_ 28 103 ba11_85 HT_ ?_
          refine pu_ 29 104 ba11_86 HT_ ?_
          refine pu_ 30 105 ba11_87 HT_ ?_
          refine pu_ 31 106 ba11_88 HT_ ?_
          refine pu_ 32 107 ba11_89 HT_ ?_
          refine pu_ 33 108 ba11_90 HT_ ?_
          refine pu_ 34 109 ba11_91 HT_ ?_
          refine pu_ 35 110 ba11_92 HT_ ?_
          refine pu_ 36 111 ba11_93 HT_ ?_
          refine pu_ 37 112 ba11_73 HT_ ?_
          refine pu_ 38 113 ba11_74 HT_ ?_
          refine pu_ 39 114 ba11_75 HT_ ?_
          refine pu_ 40 115 ba11_76 HT_ ?_
          refine pu_ 41 116 ba11_77 HT_ ?_
          refine pz_ 42 117 ba11_78 HT_ ?_
          refine done_ (done_of HT_.out (by kernel_rfl)) ?_
          try go_wp2
          go_roundg k4
          case measure => have := HK1.out; have := HJ21.out; have := HK3.out; have := HK4.out; omega
          case rel => exact ⟨(wrap64 (x8_4 + 1)), (by first | rfl | (simp; done) | (simp [*]; done)), H', ⟨by have := HK1.out; have := HJ21.out; have := HK3.out; have := HK4.out; omega⟩, ⟨by (with_reducible repeat (first | apply Kd.S_alloc | apply Kd.S_drewN | apply Kd.S_drew)); exact HO_4.out⟩, ⟨by (with_reducible repeat (first | apply Kd.S_alloc | apply Kd.S_drewN | apply Kd.S_drew)); exact HO_5.out⟩, ⟨by (with_reducible repeat (first | apply Kd.R_alloc | apply Kd.R_drewN | apply Kd.R_drew)); exact HO_368001.out⟩, ⟨by (with_reducible repeat (first | refine blk_drewN ?_ _ | refine blk_drew ?_ | refine blk_alloc ?_ _)); exact BK367.out⟩, ⟨by repeat (first | (with_reducible exact HR381_0.out) | (with_reducible refine Kd.C_alloc ?_ _) | (with_reducible refine Kd.C_drewN ?_ _) | (with_reducible refine Kd.C_drew ?_) | exact HR381_0.out)⟩, ⟨by repeat (first | (with_reducible first | exact HB.out | apply below_alloc | apply pw_below_drewN | apply below_drew1 | refine below_set ?_ GE367.out) | exact HB.out)⟩⟩
         rw [if_pos c53] at H
         have c53b0 : decide ((rd (rd_L3 t369 x6_1) x8_4) < 1000000) = true := decide_eq_true c53
         clear c53
         by_cases c54 : x8_4 < (t369.length : Int)
         rotate_left
         ·rw [if_neg c54] at H
          exact absurd H (by simp)
         rw [if_pos c54] at H
         have c54b0 : decide (x8_4 < (t369.length : Int)) = true := decide_eq_true c54
         clear c54
         by_cases c55 : 0 ≤ x7_3
         rotate_left
         ·rw [if_neg c55] at H
          exact absurd H (by simp)
         rw [if_pos c55] at H
         have c55b0 : decide (0 ≤ x7_3) = true := decide_eq_true c55
         clear c55
         by_cases c56 : x7_3 < ((rd_L3 t369 x8_4).length : Int)
         rotate_left
         ·rw [if_neg c56] at H
          exact absurd H (by simp)
         rw [if_pos c56] at H
         have c56b0 : decide (x7_3 < ((rd_L3 t369 x8_4).length : Int)) = true := decide_eq_true c56
         clear c56
         by_cases c57 : (rd (rd_L3 t369 x8_4) x7_3) < 1000000
         rotate_left
         ·rw [if_neg c57] at H
          have c57b0 : decide ((rd (rd_L3 t369 x8_4) x7_3) < 1000000) = false := decide_eq_false c57
          clear c57
          have H' := Aside0.mk H
          clear H
          have hcz64_0 := cz_ BK367 0 (.int .i64 t363)
          have hcz64_1 := cz_ BK367 1 (.slice Ao13 t364.length co13)
          have hfz64_0 := blk_frozen BK367.out 0
          have hfz64_1 := blk_frozen BK367.out 1
          try go_wp2
          replace HO_4 := Aside0.mk (Kd.S_drew HO_4.out)
          replace HO_5 := Aside0.mk (Kd.S_drew HO_5.out)
          replace HO_368001 := Aside0.mk (Kd.R_drew HO_368001.out)
          replace BK367 := Aside0.mk (blk_drew BK367.out)
          replace HR381_0 := Aside0.mk (Kd.C_drew HR381_0.out)
          replace HB := Aside0.mk (below_drew1 HB.out)
          have p383 : 0 ≤ (x6_1 : Int) := of_decide_eq_true (by first | (with_reducible assumption) | assumption)
          have q383 : x6_1 < (t369.length : Int) := of_decide_eq_true (by first | (with_reducible assumption) | assumption)
          obtain ⟨ad383, A383_0, c383_0, e383, hx383_0, hl383_0, hi383_0⟩ := at_L3 (Kd.S_reads' HO_4.out).2.2 x6_1 p383 q383
          obtain rfl : ad381 = ad383 := (by injection e383)
          obtain ⟨ce383, hce383, hMe383, hcc383⟩ := Kd.S_get HO_4.out [] x6_1 p383 (by first | exact q383 | exact of_decide_eq_true (by first | (with_reducible assumption) | assumption) | (have e_ := (Kd.S_reads' HO_4.out).1; omega))
          obtain ⟨ve383_0, rfl, ge383_0⟩ := hMe383
          have hv383_0 := hcc383 0 _ rfl
          rw [Nat.add_zero, show ((Kd.slice 3 (Kd.int .i64))).sz = 1 from rfl, Nat.mul_one] at hv383_0
          replace hv383_0 := Option.some.inj (hv383_0.symm.trans hx383_0)
          rw [hv383_0] at ge383_0
          have HL383_0 := Aside0.mk (show Kd.R (Kd.int .i64) 3 _ _ _ _ (rd_L3 t369 x6_1) from ge383_0)
          clear hv383_0 ge383_0
          clear hcc383 hce383
          have HR383_0 := Aside0.mk hi383_0
          have HC383_0 := Aside0.mk hl383_0
          clear hi383_0 hl383_0
          replace p383 := eq_true p383
          replace q383 := eq_true q383
          have p384 : 0 ≤ (x8_4 : Int) := of_decide_eq_true (by first | (with_reducible assumption) | assumption)
          have q384 : x8_4 < ((rd_L3 t369 x6_1).length : Int) := of_decide_eq_true (by first | (with_reducible assumption) | assumption)
          obtain ⟨ad384, e384, hx384_0⟩ := Kd.at_int (by repeat (first | (with_reducible exact HR383_0.out) | (with_reducible refine Kd.C_alloc ?_ _) | (with_reducible refine Kd.C_drewN ?_ _) | (with_reducible refine Kd.C_drew ?_) | exact HR383_0.out)) x8_4 p384 q384
          cases e384
          replace p384 := eq_true p384
          replace q384 := eq_true q384
          have p385 : 0 ≤ (x8_4 : Int) := of_decide_eq_true (by first | (with_reducible assumption) | assumption)
          have q385 : x8_4 < (t369.length : Int) := of_decide_eq_true (by first | (with_reducible assumption) | assumption)
          obtain ⟨ad385, A385_0, c385_0, e385, hx385_0, hl385_0, hi385_0⟩ := at_L3 (Kd.S_reads' HO_4.out).2.2 x8_4 p385 q385
          obtain rfl : ad381 = ad385 := (by injection e385)
          obtain ⟨ce385, hce385, hMe385, hcc385⟩ := Kd.S_get HO_4.out [] x8_4 p385 (by first | exact q385 | exact of_decide_eq_true (by first | (with_reducible assumption) | assumption) | (have e_ := (Kd.S_reads' HO_4.out).1; omega))
          obtain ⟨ve385_0, rfl, ge385_0⟩ := hMe385
          have hv385_0 := hcc385 0 _ rfl
          rw [Nat.add_zero, show ((Kd.slice 3 (Kd.int .i64))).sz = 1 from rfl, Nat.mul_one] at hv385_0
          replace hv385_0 := Option.some.inj (hv385_0.symm.trans hx385_0)
          rw [hv385_0] at ge385_0
          have HL385_0 := Aside0.mk (show Kd.R (Kd.int .i64) 3 _ _ _ _ (rd_L3 t369 x8_4) from ge385_0)
          clear hv385_0 ge385_0
          clear hcc385 hce385
          have HR385_0 := Aside0.mk hi385_0
          have HC385_0 := Aside0.mk hl385_0
          clear hi385_0 hl385_0
          replace p385 := eq_true p385
          replace q385 := eq_true q385
          have p386 : 0 ≤ (x7_3 : Int) := of_decide_eq_true (by first | (with_reducible assumption) | assumption)
          have q386 : x7_3 < ((rd_L3 t369 x8_4).length : Int) := of_decide_eq_true (by first | (with_reducible assumption) | assumption)
          obtain ⟨ad386, e386, hx386_0⟩ := Kd.at_int (by repeat (first | (with_reducible exact HR385_0.out) | (with_reducible refine Kd.C_alloc ?_ _) | (with_reducible refine Kd.C_drewN ?_ _) | (with_reducible refine Kd.C_drew ?_) | exact HR385_0.out)) x7_3 p386 q386
          cases e386
          replace p386 := eq_true p386
          replace q386 := eq_true q386
          refine start_ (n := 43) (S := fun w' => w'.cell? (ad381.add (x6_1).toNat) = some (.slice (some ad384) (rd_L3 t369 x6_1).length c383_0) ∧ w'.cell? (ad384.add (x8_4).toNat) = some (.int .i64 (rd (rd_L3 t369 x6_1) x8_4)) ∧ w'.cell? (ad381.add (x8_4).toNat) = some (.slice (some ad386) (rd_L3 t369 x8_4).length c385_0) ∧ w'.cell? (ad386.add (x7_3).toNat) = some (.int .i64 (rd (rd_L3 t369 x8_4) x7_3))) (ds := []) ba11_35 (by kernel_rfl) rfl rfl ⟨hx383_0, hx384_0, hx385_0, hx386_0⟩ (fun hHeld => ?_); refine with_tabW laws_FnTriangle.tab23 laws_FnTriangle.bits23 (fun HT_ HW_ => ?_)
          generalize wr.drew = w65 at HO_4 HO_5 HO_368001 BK367 HR381_0 HB HL383_0 HL385_0 HR383_0 HR385_0 hx383_0 hx384_0 hx385_0 hx386_0 hHeld ⊢
          refine pz_ 0 75 ba11_36 HT_ ?_
          refine pz_ 1 76 ba11_37 HT_ ?_
          refine pz_ 2 77 ba11_38 HT_ ?_
          refine pz_ 4 79 ba11_39 HT_ ?_
          refine pt_ 3 78 ba11_40 HT_ HW_ hHeld ?_
          refine pz_ 5 80 ba11_41 HT_ ?_
          refine pt_ 6 81 ba11_42 HT_ HW_ hHeld ?_
          refine pz_ 7 82 ba11_43 HT_ ?_
          refine pz_ 8 83 ba11_44 HT_ ?_
          refine pz_ 9 84 ba11_45 HT_ ?_
          refine pz_ 10 85 ba11_46 HT_ ?_
          refine pz_ 11 86 ba11_47 HT_ ?_
          refine pz_ 13 88 ba11_48 HT_ ?_
          refine pt_ 12 87 ba11_49 HT_ HW_ hHeld ?_
          refine pz_ 14 89 ba11_50 HT_ ?_
          refine pt_ 15 90 ba11_51 HT_ HW_ hHeld ?_
          refine pz_ 16 91 ba11_52 HT_ ?_
          refine pz_ 17 92 ba11_53 HT_ ?_
          refine pz_ 18 93 ba11_54 HT_ ?_
          refine pu_ 19 94 ba11_55 HT_ ?_
          refine pu_ 20 95 ba11_56 HT_ ?_
          refine pu_ 21 96 ba11_57 HT_ ?_
          refine pu_ 22 97 ba11_79 HT_ ?_
          refine pu_ 23 98 ba11_80 HT_ ?_
          refine pu_ 24 99 ba11_81 HT_ ?_
          refine pu_ 25 100 ba11_82 HT_ ?_
          refine pu_ 26 101 ba11_83 HT_ ?_
          refine pu_ 27 102 ba11_84 HT_ ?_
          refine pu_ 28 103 ba11_85 HT_ ?_
          refine pu_ 29 104 ba11_86 HT_ ?_
          refine pu_ 30 105 ba11_87 HT_ ?_
          refine pu_ 31 106 ba11_88 HT_ ?_
          refine pu_ 32 107 ba11_89 HT_ ?_
          refine pu_ 33 108 ba11_90 HT_ ?_
          refine pu_ 34 109 ba11_91 HT_ ?_
          refine pu_ 35 110 ba11_92 HT_ ?_
          refine pu_ 36 111 ba11_93 HT_ ?_
          refine pu_ 37 112 ba11_73 HT_ ?_
          refine pu_ 38 113 ba11_74 HT_ ?_
          refine pu_ 39 114 ba11_75 HT_ ?_
          refine pu_ 40 115 ba11_76 HT_ ?_
          refine pu_ 41 116 ba11_77 HT_ ?_
          refine pz_ 42 117 ba11_78 HT_ ?_
          refine done_ (done_of HT_.out (by kernel_rfl)) ?_
          try go_wp2
          go_roundg k4
          case measure => have := HK1.out; have := HJ21.out; have := HK3.out; have := HK4.out; omega
          case rel => exact ⟨(wrap64 (x8_4 + 1)), (by first | rfl | (simp; done) | (simp [*]; done)), H', ⟨by have := HK1.out; have := HJ21.out; have := HK3.out; have := HK4.out; omega⟩, ⟨by (with_reducible repeat (first | apply Kd.S_alloc | apply Kd.S_drewN | apply Kd.S_drew)); exact HO_4.out⟩, ⟨by (with_reducible repeat (first | apply Kd.S_alloc | apply Kd.S_drewN | apply Kd.S_drew)); exact HO_5.out⟩, ⟨by (with_reducible repeat (first | apply Kd.R_alloc | apply Kd.R_drewN | apply Kd.R_drew)); exact HO_368001.out⟩, ⟨by (with_reducible repeat (first | refine blk_drewN ?_ _ | refine blk_drew ?_ | refine blk_alloc ?_ _)); exact BK367.out⟩, ⟨by repeat (first | (with_reducible exact HR381_0.out) | (with_reducible refine Kd.C_alloc ?_ _) | (with_reducible refine Kd.C_drewN ?_ _) | (with_reducible refine Kd.C_drew ?_) | exact HR381_0.out)⟩, ⟨by repeat (first | (with_reducible first | exact HB.out | apply below_alloc | apply pw_below_drewN | apply below_drew1 | refine below_set ?_ GE367.out) | exact HB.out)⟩⟩
         rw [if_pos c57] at H
         have c57b0 : decide ((rd (rd_L3 t369 x8_4) x7_3) < 1000000) = true := decide_eq_true c57
         clear c57
         by_cases c58 : x7_3 < ((rd_L3 t369 x6_1).length : Int)
         rotate_left
         ·rw [if_neg c58] at H
          exact absurd H (by simp)
         rw [if_pos c58] at H
         have c58b0 : decide (x7_3 < ((rd_L3 t369 x6_1).length : Int)) = true := decide_eq_true c58
         clear c58
         by_cases c59 : (rd (rd_L3 t369 x6_1) x7_3) > (wrap64 ((rd (rd_L3 t369 x6_1) x8_4) + (rd (rd_L3 t369 x8_4) x7_3)))
         ·rw [if_pos c59] at H
          have c59b0 : decide ((wrap64 ((rd (rd_L3 t369 x6_1) x8_4) + (rd (rd_L3 t369 x8_4) x7_3))) < (rd (rd_L3 t369 x6_1) x7_3)) = true := decide_eq_true c59
          clear c59
          obtain rfl := Option.some.inj H
          have hcz60_0 := cz_ BK367 0 (.int .i64 t363)
          have hcz60_1 := cz_ BK367 1 (.slice Ao13 t364.length co13)
          have hfz60_0 := blk_frozen BK367.out 0
          have hfz60_1 := blk_frozen BK367.out 1
          try go_wp2
          replace HO_4 := Aside0.mk (Kd.S_drew HO_4.out)
          replace HO_5 := Aside0.mk (Kd.S_drew HO_5.out)
          replace HO_368001 := Aside0.mk (Kd.R_drew HO_368001.out)
          replace BK367 := Aside0.mk (blk_drew BK367.out)
          replace HR381_0 := Aside0.mk (Kd.C_drew HR381_0.out)
          replace HB := Aside0.mk (below_drew1 HB.out)
          have p383 : 0 ≤ (x6_1 : Int) := of_decide_eq_true (by first | (with_reducible assumption) | assumption)
          have q383 : x6_1 < (t369.length : Int) := of_decide_eq_true (by first | (with_reducible assumption) | assumption)
          obtain ⟨ad383, A383_0, c383_0, e383, hx383_0, hl383_0, hi383_0⟩ := at_L3 (Kd.S_reads' HO_4.out).2.2 x6_1 p383 q383
          obtain rfl : ad381 = ad383 := (by injection e383)
          obtain ⟨ce383, hce383, hMe383, hcc383⟩ := Kd.S_get HO_4.out [] x6_1 p383 (by first | exact q383 | exact of_decide_eq_true (by first | (with_reducible assumption) | assumption) | (have e_ := (Kd.S_reads' HO_4.out).1; omega))
          obtain ⟨ve383_0, rfl, ge383_0⟩ := hMe383
          have hv383_0 := hcc383 0 _ rfl
          rw [Nat.add_zero, show ((Kd.slice 3 (Kd.int .i64))).sz = 1 from rfl, Nat.mul_one] at hv383_0
          replace hv383_0 := Option.some.inj (hv383_0.symm.trans hx383_0)
          rw [hv383_0] at ge383_0
          have HL383_0 := Aside0.mk (show Kd.R (Kd.int .i64) 3 _ _ _ _ (rd_L3 t369 x6_1) from ge383_0)
          clear hv383_0 ge383_0
          clear hcc383 hce383
          have HR383_0 := Aside0.mk hi383_0
          have HC383_0 := Aside0.mk hl383_0
          clear hi383_0 hl383_0
          replace p383 := eq_true p383
          replace q383 := eq_true q383
          have p384 : 0 ≤ (x8_4 : Int) := of_decide_eq_true (by first | (with_reducible assumption) | assumption)
          have q384 : x8_4 < ((rd_L3 t369 x6_1).length : Int) := of_decide_eq_true (by first | (with_reducible assumption) | assumption)
          obtain ⟨ad384, e384, hx384_0⟩ := Kd.at_int (by repeat (first | (with_reducible exact HR383_0.out) | (with_reducible refine Kd.C_alloc ?_ _) | (with_reducible refine Kd.C_drewN ?_ _) | (with_reducible refine Kd.C_drew ?_) | exact HR383_0.out)) x8_4 p384 q384
          cases e384
          replace p384 := eq_true p384
          replace q384 := eq_true q384
          have p385 : 0 ≤ (x8_4 : Int) := of_decide_eq_true (by first | (with_reducible assumption) | assumption)
          have q385 : x8_4 < (t369.length : Int) := of_decide_eq_true (by first | (with_reducible assumption) | assumption)
          obtain ⟨ad385, A385_0, c385_0, e385, hx385_0, hl385_0, hi385_0⟩ := at_L3 (Kd.S_reads' HO_4.out).2.2 x8_4 p385 q385
          obtain rfl : ad381 = ad385 := (by injection e385)
          obtain ⟨ce385, hce385, hMe385, hcc385⟩ := Kd.S_get HO_4.out [] x8_4 p385 (by first | exact q385 | exact of_decide_eq_true (by first | (with_reducible assumption) | assumption) | (have e_ := (Kd.S_reads' HO_4.out).1; omega))
          obtain ⟨ve385_0, rfl, ge385_0⟩ := hMe385
          have hv385_0 := hcc385 0 _ rfl
          rw [Nat.add_zero, show ((Kd.slice 3 (Kd.int .i64))).sz = 1 from rfl, Nat.mul_one] at hv385_0
          replace hv385_0 := Option.some.inj (hv385_0.symm.trans hx385_0)
          rw [hv385_0] at ge385_0
          have HL385_0 := Aside0.mk (show Kd.R (Kd.int .i64) 3 _ _ _ _ (rd_L3 t369 x8_4) from ge385_0)
          clear hv385_0 ge385_0
          clear hcc385 hce385
          have HR385_0 := Aside0.mk hi385_0
          have HC385_0 := Aside0.mk hl385_0
          clear hi385_0 hl385_0
          replace p385 := eq_true p385
          replace q385 := eq_true q385
          have p386 : 0 ≤ (x7_3 : Int) := of_decide_eq_true (by first | (with_reducible assumption) | assumption)
          have q386 : x7_3 < ((rd_L3 t369 x8_4).length : Int) := of_decide_eq_true (by first | (with_reducible assumption) | assumption)
          obtain ⟨ad386, e386, hx386_0⟩ := Kd.at_int (by repeat (first | (with_reducible exact HR385_0.out) | (with_reducible refine Kd.C_alloc ?_ _) | (with_reducible refine Kd.C_drewN ?_ _) | (with_reducible refine Kd.C_drew ?_) | exact HR385_0.out)) x7_3 p386 q386
          cases e386
          replace p386 := eq_true p386
          replace q386 := eq_true q386
          have p387 : 0 ≤ (x6_1 : Int) := of_decide_eq_true (by first | (with_reducible assumption) | assumption)
          have q387 : x6_1 < (t369.length : Int) := of_decide_eq_true (by first | (with_reducible assumption) | assumption)
          obtain ⟨ad387, A387_0, c387_0, e387, hx387_0, hl387_0, hi387_0⟩ := at_L3 (Kd.S_reads' HO_4.out).2.2 x6_1 p387 q387
          obtain rfl : ad381 = ad387 := (by injection e387)
          obtain ⟨ce387, hce387, hMe387, hcc387⟩ := Kd.S_get HO_4.out [] x6_1 p387 (by first | exact q387 | exact of_decide_eq_true (by first | (with_reducible assumption) | assumption) | (have e_ := (Kd.S_reads' HO_4.out).1; omega))
          obtain ⟨ve387_0, rfl, ge387_0⟩ := hMe387
          have hv387_0 := hcc387 0 _ rfl
          rw [Nat.add_zero, show ((Kd.slice 3 (Kd.int .i64))).sz = 1 from rfl, Nat.mul_one] at hv387_0
          replace hv387_0 := Option.some.inj (hv387_0.symm.trans hx387_0)
          rw [hv387_0] at ge387_0
          have HL387_0 := Aside0.mk (show Kd.R (Kd.int .i64) 3 _ _ _ _ (rd_L3 t369 x6_1) from ge387_0)
          clear hv387_0 ge387_0
          clear hcc387 hce387
          have HR387_0 := Aside0.mk hi387_0
          have HC387_0 := Aside0.mk hl387_0
          clear hi387_0 hl387_0
          replace p387 := eq_true p387
          replace q387 := eq_true q387
          have ea_ := Option.some.inj (hx383_0.symm.trans hx387_0)
          injection ea_ with ea_ en_ ec_
          subst ea_
          subst ec_
          clear en_
          have p388 : 0 ≤ (x7_3 : Int) := of_decide_eq_true (by first | (with_reducible assumption) | assumption)
          have q388 : x7_3 < ((rd_L3 t369 x6_1).length : Int) := of_decide_eq_true (by first | (with_reducible assumption) | assumption)
          obtain ⟨ad388, e388, hx388_0⟩ := Kd.at_int (by repeat (first | (with_reducible exact HR387_0.out) | (with_reducible refine Kd.C_alloc ?_ _) | (with_reducible refine Kd.C_drewN ?_ _) | (with_reducible refine Kd.C_drew ?_) | exact HR387_0.out)) x7_3 p388 q388
          cases e388
          replace p388 := eq_true p388
          replace q388 := eq_true q388
          have p389 : 0 ≤ (x6_1 : Int) := of_decide_eq_true (by first | (with_reducible assumption) | assumption)
          have q389 : x6_1 < (t369.length : Int) := of_decide_eq_true (by first | (with_reducible assumption) | assumption)
          obtain ⟨ad389, A389_0, c389_0, e389, hx389_0, hl389_0, hi389_0⟩ := at_L3 (Kd.S_reads' HO_4.out).2.2 x6_1 p389 q389
          obtain rfl : ad381 = ad389 := (by injection e389)
          obtain ⟨ce389, hce389, hMe389, hcc389⟩ := Kd.S_get HO_4.out [] x6_1 p389 (by first | exact q389 | exact of_decide_eq_true (by first | (with_reducible assumption) | assumption) | (have e_ := (Kd.S_reads' HO_4.out).1; omega))
          obtain ⟨ve389_0, rfl, ge389_0⟩ := hMe389
          have hv389_0 := hcc389 0 _ rfl
          rw [Nat.add_zero, show ((Kd.slice 3 (Kd.int .i64))).sz = 1 from rfl, Nat.mul_one] at hv389_0
          replace hv389_0 := Option.some.inj (hv389_0.symm.trans hx389_0)
          rw [hv389_0] at ge389_0
          have HL389_0 := Aside0.mk (show Kd.R (Kd.int .i64) 3 _ _ _ _ (rd_L3 t369 x6_1) from ge389_0)
          clear hv389_0 ge389_0
          clear hcc389 hce389
          have HR389_0 := Aside0.mk hi389_0
          have HC389_0 := Aside0.mk hl389_0
          clear hi389_0 hl389_0
          replace p389 := eq_true p389
          replace q389 := eq_true q389
          have ea_ := Option.some.inj (hx383_0.symm.trans hx389_0)
          injection ea_ with ea_ en_ ec_
          subst ea_
          subst ec_
          clear en_
          have p390 : 0 ≤ (x8_4 : Int) := of_decide_eq_true (by first | (with_reducible assumption) | assumption)
          have q390 : x8_4 < ((rd_L3 t369 x6_1).length : Int) := of_decide_eq_true (by first | (with_reducible assumption) | assumption)
          obtain ⟨ad390, e390, hx390_0⟩ := Kd.at_int (by repeat (first | (with_reducible exact HR389_0.out) | (with_reducible refine Kd.C_alloc ?_ _) | (with_reducible refine Kd.C_drewN ?_ _) | (with_reducible refine Kd.C_drew ?_) | exact HR389_0.out)) x8_4 p390 q390
          cases e390
          replace p390 := eq_true p390
          replace q390 := eq_true q390
          have p391 : 0 ≤ (x8_4 : Int) := of_decide_eq_true (by first | (with_reducible assumption) | assumption)
          have q391 : x8_4 < (t369.length : Int) := of_decide_eq_true (by first | (with_reducible assumption) | assumption)
          obtain ⟨ad391, A391_0, c391_0, e391, hx391_0, hl391_0, hi391_0⟩ := at_L3 (Kd.S_reads' HO_4.out).2.2 x8_4 p391 q391
          obtain rfl : ad381 = ad391 := (by injection e391)
          obtain ⟨ce391, hce391, hMe391, hcc391⟩ := Kd.S_get HO_4.out [] x8_4 p391 (by first | exact q391 | exact of_decide_eq_true (by first | (with_reducible assumption) | assumption) | (have e_ := (Kd.S_reads' HO_4.out).1; omega))
          obtain ⟨ve391_0, rfl, ge391_0⟩ := hMe391
          have hv391_0 := hcc391 0 _ rfl
          rw [Nat.add_zero, show ((Kd.slice 3 (Kd.int .i64))).sz = 1 from rfl, Nat.mul_one] at hv391_0
          replace hv391_0 := Option.some.inj (hv391_0.symm.trans hx391_0)
          rw [hv391_0] at ge391_0
          have HL391_0 := Aside0.mk (show Kd.R (Kd.int .i64) 3 _ _ _ _ (rd_L3 t369 x8_4) from ge391_0)
          clear hv391_0 ge391_0
          clear hcc391 hce391
          have HR391_0 := Aside0.mk hi391_0
          have HC391_0 := Aside0.mk hl391_0
          clear hi391_0 hl391_0
          replace p391 := eq_true p391
          replace q391 := eq_true q391
          have ea_ := Option.some.inj (hx385_0.symm.trans hx391_0)
          injection ea_ with ea_ en_ ec_
          subst ea_
          subst ec_
          clear en_
          have p392 : 0 ≤ (x7_3 : Int) := of_decide_eq_true (by first | (with_reducible assumption) | assumption)
          have q392 : x7_3 < ((rd_L3 t369 x8_4).length : Int) := of_decide_eq_true (by first | (with_reducible assumption) | assumption)
          obtain ⟨ad392, e392, hx392_0⟩ := Kd.at_int (by repeat (first | (with_reducible exact HR391_0.out) | (with_reducible refine Kd.C_alloc ?_ _) | (with_reducible refine Kd.C_drewN ?_ _) | (with_reducible refine Kd.C_drew ?_) | exact HR391_0.out)) x7_3 p392 q392
          cases e392
          replace p392 := eq_true p392
          replace q392 := eq_true q392
          refine start_ (n := 43) (S := fun w' => w'.cell? (ad381.add (x6_1).toNat) = some (.slice (some ad384) (rd_L3 t369 x6_1).length c383_0) ∧ w'.cell? (ad384.add (x8_4).toNat) = some (.int .i64 (rd (rd_L3 t369 x6_1) x8_4)) ∧ w'.cell? (ad381.add (x8_4).toNat) = some (.slice (some ad386) (rd_L3 t369 x8_4).length c385_0) ∧ w'.cell? (ad386.add (x7_3).toNat) = some (.int .i64 (rd (rd_L3 t369 x8_4) x7_3)) ∧ w'.cell? (ad381.add (x6_1).toNat) = some (.slice (some ad384) (rd_L3 t369 x6_1).length c383_0) ∧ w'.cell? (ad384.add (x7_3).toNat) = some (.int .i64 (rd (rd_L3 t369 x6_1) x7_3)) ∧ w'.cell? (ad381.add (x6_1).toNat) = some (.slice (some ad384) (rd_L3 t369 x6_1).length c383_0) ∧ w'.cell? (ad384.add (x8_4).toNat) = some (.int .i64 (rd (rd_L3 t369 x6_1) x8_4)) ∧ w'.cell? (ad381.add (x8_4).toNat) = some (.slice (some ad386) (rd_L3 t369 x8_4).length c385_0) ∧ w'.cell? (ad386.add (x7_3).toNat) = some (.int .i64 (rd (rd_L3 t369 x8_4) x7_3))) (ds := []) ba11_35 (by kernel_rfl) rfl rfl ⟨hx383_0, hx384_0, hx385_0, hx386_0, hx387_0, hx388_0, hx389_0, hx390_0, hx391_0, hx392_0⟩ (fun hHeld => ?_); refine with_tabW laws_FnTriangle.tab23 laws_FnTriangle.bits23 (fun HT_ HW_ => ?_)
          generalize wr.drew = w61 at HO_4 HO_5 HO_368001 BK367 HR381_0 HB HL383_0 HL385_0 HL387_0 HL389_0 HL391_0 HR383_0 HR385_0 HR387_0 HR389_0 HR391_0 hx383_0 hx384_0 hx385_0 hx386_0 hx387_0 hx388_0 hx389_0 hx390_0 hx391_0 hx392_0 hHeld ⊢
          refine pz_ 0 75 ba11_36 HT_ ?_
          refine pz_ 1 76 ba11_37 HT_ ?_
          refine pz_ 2 77 ba11_38 HT_ ?_
          refine pz_ 4 79 ba11_39 HT_ ?_
          refine pt_ 3 78 ba11_40 HT_ HW_ hHeld ?_
          refine pz_ 5 80 ba11_41 HT_ ?_
          refine pt_ 6 81 ba11_42 HT_ HW_ hHeld ?_
          refine pz_ 7 82 ba11_43 HT_ ?_
          refine pz_ 8 83 ba11_44 HT_ ?_
          refine pz_ 9 84 ba11_45 HT_ ?_
          refine pz_ 10 85 ba11_46 HT_ ?_
          refine pz_ 11 86 ba11_47 HT_ ?_
          refine pz_ 13 88 ba11_48 HT_ ?_
          refine pt_ 12 87 ba11_49 HT_ HW_ hHeld ?_
          refine pz_ 14 89 ba11_50 HT_ ?_
          refine pt_ 15 90 ba11_51 HT_ HW_ hHeld ?_
          refine pz_ 16 91 ba11_52 HT_ ?_
          refine pz_ 17 92 ba11_53 HT_ ?_
          refine pz_ 18 93 ba11_54 HT_ ?_
          refine pz_ 19 94 ba11_55 HT_ ?_
          refine pz_ 20 95 ba11_56 HT_ ?_
          refine pz_ 21 96 ba11_57 HT_ ?_
          refine pz_ 23 98 ba11_58 HT_ ?_
          refine pz_ 26 101 ba11_59 HT_ ?_
          refine pz_ 27 102 ba11_60 HT_ ?_
          refine pz_ 28 103 ba11_61 HT_ ?_
          refine pz_ 30 105 ba11_62 HT_ ?_
          refine pz_ 33 108 ba11_63 HT_ ?_
          refine pz_ 34 109 ba11_64 HT_ ?_
          refine pz_ 35 110 ba11_65 HT_ ?_
          refine pz_ 37 112 ba11_66 HT_ ?_
          refine pt_ 22 97 ba11_67 HT_ HW_ hHeld ?_
          refine pz_ 24 99 ba11_68 HT_ ?_
          refine pt_ 25 100 ba11_69 HT_ HW_ hHeld ?_
          refine pt_ 29 104 ba11_70 HT_ HW_ hHeld ?_
          refine pz_ 31 106 ba11_71 HT_ ?_
          refine pt_ 32 107 ba11_72 HT_ HW_ hHeld ?_
          refine pt_ 36 111 ba11_73 HT_ HW_ hHeld ?_
          refine pz_ 38 113 ba11_74 HT_ ?_
          refine pt_ 39 114 ba11_75 HT_ HW_ hHeld ?_
          refine pz_ 40 115 ba11_76 HT_ ?_
          refine pz_ 41 116 ba11_77 HT_ ?_
          refine pz_ 42 117 ba11_78 HT_ ?_
          refine done_ (done_of HT_.out (by kernel_rfl)) ?_
          try go_wp2
          go_ret
          exact ⟨by first | rfl | (simp [errW_none, errW_some] <;> rfl) | (simp [*, errW_none, errW_some] <;> rfl), by repeat (first | (with_reducible first | exact HB.out | apply below_alloc | apply pw_below_drewN | apply below_drew1 | refine below_set ?_ GE367.out) | exact HB.out)⟩
         rw [if_neg c59] at H
         have c59b0 : decide ((wrap64 ((rd (rd_L3 t369 x6_1) x8_4) + (rd (rd_L3 t369 x8_4) x7_3))) < (rd (rd_L3 t369 x6_1) x7_3)) = false := decide_eq_false c59
         clear c59
         have H' := Aside0.mk H
         clear H
         have hcz62_0 := cz_ BK367 0 (.int .i64 t363)
         have hcz62_1 := cz_ BK367 1 (.slice Ao13 t364.length co13)
         have hfz62_0 := blk_frozen BK367.out 0
         have hfz62_1 := blk_frozen BK367.out 1
         try go_wp2
         replace HO_4 := Aside0.mk (Kd.S_drew HO_4.out)
         replace HO_5 := Aside0.mk (Kd.S_drew HO_5.out)
         replace HO_368001 := Aside0.mk (Kd.R_drew HO_368001.out)
         replace BK367 := Aside0.mk (blk_drew BK367.out)
         replace HR381_0 := Aside0.mk (Kd.C_drew HR381_0.out)
         replace HB := Aside0.mk (below_drew1 HB.out)
         have p383 : 0 ≤ (x6_1 : Int) := of_decide_eq_true (by first | (with_reducible assumption) | assumption)
         have q383 : x6_1 < (t369.length : Int) := of_decide_eq_true (by first | (with_reducible assumption) | assumption)
         obtain ⟨ad383, A383_0, c383_0, e383, hx383_0, hl383_0, hi383_0⟩ := at_L3 (Kd.S_reads' HO_4.out).2.2 x6_1 p383 q383
         obtain rfl : ad381 = ad383 := (by injection e383)
         obtain ⟨ce383, hce383, hMe383, hcc383⟩ := Kd.S_get HO_4.out [] x6_1 p383 (by first | exact q383 | exact of_decide_eq_true (by first | (with_reducible assumption) | assumption) | (have e_ := (Kd.S_reads' HO_4.out).1; omega))
         obtain ⟨ve383_0, rfl, ge383_0⟩ := hMe383
         have hv383_0 := hcc383 0 _ rfl
         rw [Nat.add_zero, show ((Kd.slice 3 (Kd.int .i64))).sz = 1 from rfl, Nat.mul_one] at hv383_0
         replace hv383_0 := Option.some.inj (hv383_0.symm.trans hx383_0)
         rw [hv383_0] at ge383_0
         have HL383_0 := Aside0.mk (show Kd.R (Kd.int .i64) 3 _ _ _ _ (rd_L3 t369 x6_1) from ge383_0)
         clear hv383_0 ge383_0
         clear hcc383 hce383
         have HR383_0 := Aside0.mk hi383_0
         have HC383_0 := Aside0.mk hl383_0
         clear hi383_0 hl383_0
         replace p383 := eq_true p383
         replace q383 := eq_true q383
         have p384 : 0 ≤ (x8_4 : Int) := of_decide_eq_true (by first | (with_reducible assumption) | assumption)
         have q384 : x8_4 < ((rd_L3 t369 x6_1).length : Int) := of_decide_eq_true (by first | (with_reducible assumption) | assumption)
         obtain ⟨ad384, e384, hx384_0⟩ := Kd.at_int (by repeat (first | (with_reducible exact HR383_0.out) | (with_reducible refine Kd.C_alloc ?_ _) | (with_reducible refine Kd.C_drewN ?_ _) | (with_reducible refine Kd.C_drew ?_) | exact HR383_0.out)) x8_4 p384 q384
         cases e384
         replace p384 := eq_true p384
         replace q384 := eq_true q384
         have p385 : 0 ≤ (x8_4 : Int) := of_decide_eq_true (by first | (with_reducible assumption) | assumption)
         have q385 : x8_4 < (t369.length : Int) := of_decide_eq_true (by first | (with_reducible assumption) | assumption)
         obtain ⟨ad385, A385_0, c385_0, e385, hx385_0, hl385_0, hi385_0⟩ := at_L3 (Kd.S_reads' HO_4.out).2.2 x8_4 p385 q385
         obtain rfl : ad381 = ad385 := (by injection e385)
         obtain ⟨ce385, hce385, hMe385, hcc385⟩ := Kd.S_get HO_4.out [] x8_4 p385 (by first | exact q385 | exact of_decide_eq_true (by first | (with_reducible assumption) | assumption) | (have e_ := (Kd.S_reads' HO_4.out).1; omega))
         obtain ⟨ve385_0, rfl, ge385_0⟩ := hMe385
         have hv385_0 := hcc385 0 _ rfl
         rw [Nat.add_zero, show ((Kd.slice 3 (Kd.int .i64))).sz = 1 from rfl, Nat.mul_one] at hv385_0
         replace hv385_0 := Option.some.inj (hv385_0.symm.trans hx385_0)
         rw [hv385_0] at ge385_0
         have HL385_0 := Aside0.mk (show Kd.R (Kd.int .i64) 3 _ _ _ _ (rd_L3 t369 x8_4) from ge385_0)
         clear hv385_0 ge385_0
         clear hcc385 hce385
         have HR385_0 := Aside0.mk hi385_0
         have HC385_0 := Aside0.mk hl385_0
         clear hi385_0 hl385_0
         replace p385 := eq_true p385
         replace q385 := eq_true q385
         have p386 : 0 ≤ (x7_3 : Int) := of_decide_eq_true (by first | (with_reducible assumption) | assumption)
         have q386 : x7_3 < ((rd_L3 t369 x8_4).length : Int) := of_decide_eq_true (by first | (with_reducible assumption) | assumption)
         obtain ⟨ad386, e386, hx386_0⟩ := Kd.at_int (by repeat (first | (with_reducible exact HR385_0.out) | (with_reducible refine Kd.C_alloc ?_ _) | (with_reducible refine Kd.C_drewN ?_ _) | (with_reducible refine Kd.C_drew ?_) | exact HR385_0.out)) x7_3 p386 q386
         cases e386
         replace p386 := eq_true p386
         replace q386 := eq_true q386
         have p387 : 0 ≤ (x6_1 : Int) := of_decide_eq_true (by first | (with_reducible assumption) | assumption)
         have q387 : x6_1 < (t369.length : Int) := of_decide_eq_true (by first | (with_reducible assumption) | assumption)
         obtain ⟨ad387, A387_0, c387_0, e387, hx387_0, hl387_0, hi387_0⟩ := at_L3 (Kd.S_reads' HO_4.out).2.2 x6_1 p387 q387
         obtain rfl : ad381 = ad387 := (by injection e387)
         obtain ⟨ce387, hce387, hMe387, hcc387⟩ := Kd.S_get HO_4.out [] x6_1 p387 (by first | exact q387 | exact of_decide_eq_true (by first | (with_reducible assumption) | assumption) | (have e_ := (Kd.S_reads' HO_4.out).1; omega))
         obtain ⟨ve387_0, rfl, ge387_0⟩ := hMe387
         have hv387_0 := hcc387 0 _ rfl
         rw [Nat.add_zero, show ((Kd.slice 3 (Kd.int .i64))).sz = 1 from rfl, Nat.mul_one] at hv387_0
         replace hv387_0 := Option.some.inj (hv387_0.symm.trans hx387_0)
         rw [hv387_0] at ge387_0
         have HL387_0 := Aside0.mk (show Kd.R (Kd.int .i64) 3 _ _ _ _ (rd_L3 t369 x6_1) from ge387_0)
         clear hv387_0 ge387_0
         clear hcc387 hce387
         have HR387_0 := Aside0.mk hi387_0
         have HC387_0 := Aside0.mk hl387_0
         clear hi387_0 hl387_0
         replace p387 := eq_true p387
         replace q387 := eq_true q387
         have ea_ := Option.some.inj (hx383_0.symm.trans hx387_0)
         injection ea_ with ea_ en_ ec_
         subst ea_
         subst ec_
         clear en_
         have p388 : 0 ≤ (x7_3 : Int) := of_decide_eq_true (by first | (with_reducible assumption) | assumption)
         have q388 : x7_3 < ((rd_L3 t369 x6_1).length : Int) := of_decide_eq_true (by first | (with_reducible assumption) | assumption)
         obtain ⟨ad388, e388, hx388_0⟩ := Kd.at_int (by repeat (first | (with_reducible exact HR387_0.out) | (with_reducible refine Kd.C_alloc ?_ _) | (with_reducible refine Kd.C_drewN ?_ _) | (with_reducible refine Kd.C_drew ?_) | exact HR387_0.out)) x7_3 p388 q388
         cases e388
         replace p388 := eq_true p388
         replace q388 := eq_true q388
         have p389 : 0 ≤ (x6_1 : Int) := of_decide_eq_true (by first | (with_reducible assumption) | assumption)
         have q389 : x6_1 < (t369.length : Int) := of_decide_eq_true (by first | (with_reducible assumption) | assumption)
         obtain ⟨ad389, A389_0, c389_0, e389, hx389_0, hl389_0, hi389_0⟩ := at_L3 (Kd.S_reads' HO_4.out).2.2 x6_1 p389 q389
         obtain rfl : ad381 = ad389 := (by injection e389)
         obtain ⟨ce389, hce389, hMe389, hcc389⟩ := Kd.S_get HO_4.out [] x6_1 p389 (by first | exact q389 | exact of_decide_eq_true (by first | (with_reducible assumption) | assumption) | (have e_ := (Kd.S_reads' HO_4.out).1; omega))
         obtain ⟨ve389_0, rfl, ge389_0⟩ := hMe389
         have hv389_0 := hcc389 0 _ rfl
         rw [Nat.add_zero, show ((Kd.slice 3 (Kd.int .i64))).sz = 1 from rfl, Nat.mul_one] at hv389_0
         replace hv389_0 := Option.some.inj (hv389_0.symm.trans hx389_0)
         rw [hv389_0] at ge389_0
         have HL389_0 := Aside0.mk (show Kd.R (Kd.int .i64) 3 _ _ _ _ (rd_L3 t369 x6_1) from ge389_0)
         clear hv389_0 ge389_0
         clear hcc389 hce389
         have HR389_0 := Aside0.mk hi389_0
         have HC389_0 := Aside0.mk hl389_0
         clear hi389_0 hl389_0
         replace p389 := eq_true p389
         replace q389 := eq_true q389
         have ea_ := Option.some.inj (hx383_0.symm.trans hx389_0)
         injection ea_ with ea_ en_ ec_
         subst ea_
         subst ec_
         clear en_
         have p390 : 0 ≤ (x8_4 : Int) := of_decide_eq_true (by first | (with_reducible assumption) | assumption)
         have q390 : x8_4 < ((rd_L3 t369 x6_1).length : Int) := of_decide_eq_true (by first | (with_reducible assumption) | assumption)
         obtain ⟨ad390, e390, hx390_0⟩ := Kd.at_int (by repeat (first | (with_reducible exact HR389_0.out) | (with_reducible refine Kd.C_alloc ?_ _) | (with_reducible refine Kd.C_drewN ?_ _) | (with_reducible refine Kd.C_drew ?_) | exact HR389_0.out)) x8_4 p390 q390
         cases e390
         replace p390 := eq_true p390
         replace q390 := eq_true q390
         have p391 : 0 ≤ (x8_4 : Int) := of_decide_eq_true (by first | (with_reducible assumption) | assumption)
         have q391 : x8_4 < (t369.length : Int) := of_decide_eq_true (by first | (with_reducible assumption) | assumption)
         obtain ⟨ad391, A391_0, c391_0, e391, hx391_0, hl391_0, hi391_0⟩ := at_L3 (Kd.S_reads' HO_4.out).2.2 x8_4 p391 q391
         obtain rfl : ad381 = ad391 := (by injection e391)
         obtain ⟨ce391, hce391, hMe391, hcc391⟩ := Kd.S_get HO_4.out [] x8_4 p391 (by first | exact q391 | exact of_decide_eq_true (by first | (with_reducible assumption) | assumption) | (have e_ := (Kd.S_reads' HO_4.out).1; omega))
         obtain ⟨ve391_0, rfl, ge391_0⟩ := hMe391
         have hv391_0 := hcc391 0 _ rfl
         rw [Nat.add_zero, show ((Kd.slice 3 (Kd.int .i64))).sz = 1 from rfl, Nat.mul_one] at hv391_0
         replace hv391_0 := Option.some.inj (hv391_0.symm.trans hx391_0)
         rw [hv391_0] at ge391_0
         have HL391_0 := Aside0.mk (show Kd.R (Kd.int .i64) 3 _ _ _ _ (rd_L3 t369 x8_4) from ge391_0)
         clear hv391_0 ge391_0
         clear hcc391 hce391
         have HR391_0 := Aside0.mk hi391_0
         have HC391_0 := Aside0.mk hl391_0
         clear hi391_0 hl391_0
         replace p391 := eq_true p391
         replace q391 := eq_true q391
         have ea_ := Option.some.inj (hx385_0.symm.trans hx391_0)
         injection ea_ with ea_ en_ ec_
         subst ea_
         subst ec_
         clear en_
         have p392 : 0 ≤ (x7_3 : Int) := of_decide_eq_true (by first | (with_reducible assumption) | assumption)
         have q392 : x7_3 < ((rd_L3 t369 x8_4).length : Int) := of_decide_eq_true (by first | (with_reducible assumption) | assumption)
         obtain ⟨ad392, e392, hx392_0⟩ := Kd.at_int (by repeat (first | (with_reducible exact HR391_0.out) | (with_reducible refine Kd.C_alloc ?_ _) | (with_reducible refine Kd.C_drewN ?_ _) | (with_reducible refine Kd.C_drew ?_) | exact HR391_0.out)) x7_3 p392 q392
         cases e392
         replace p392 := eq_true p392
         replace q392 := eq_true q392
         refine start_ (n := 43) (S := fun w' => w'.cell? (ad381.add (x6_1).toNat) = some (.slice (some ad384) (rd_L3 t369 x6_1).length c383_0) ∧ w'.cell? (ad384.add (x8_4).toNat) = some (.int .i64 (rd (rd_L3 t369 x6_1) x8_4)) ∧ w'.cell? (ad381.add (x8_4).toNat) = some (.slice (some ad386) (rd_L3 t369 x8_4).length c385_0) ∧ w'.cell? (ad386.add (x7_3).toNat) = some (.int .i64 (rd (rd_L3 t369 x8_4) x7_3)) ∧ w'.cell? (ad381.add (x6_1).toNat) = some (.slice (some ad384) (rd_L3 t369 x6_1).length c383_0) ∧ w'.cell? (ad384.add (x7_3).toNat) = some (.int .i64 (rd (rd_L3 t369 x6_1) x7_3)) ∧ w'.cell? (ad381.add (x6_1).toNat) = some (.slice (some ad384) (rd_L3 t369 x6_1).length c383_0) ∧ w'.cell? (ad384.add (x8_4).toNat) = some (.int .i64 (rd (rd_L3 t369 x6_1) x8_4)) ∧ w'.cell? (ad381.add (x8_4).toNat) = some (.slice (some ad386) (rd_L3 t369 x8_4).length c385_0) ∧ w'.cell? (ad386.add (x7_3).toNat) = some (.int .i64 (rd (rd_L3 t369 x8_4) x7_3))) (ds := []) ba11_35 (by kernel_rfl) rfl rfl ⟨hx383_0, hx384_0, hx385_0, hx386_0, hx387_0, hx388_0, hx389_0, hx390_0, hx391_0, hx392_0⟩ (fun hHeld => ?_); refine with_tabW laws_FnTriangle.tab23 laws_FnTriangle.bits23 (fun HT_ HW_ => ?_)
         generalize wr.drew = w63 at HO_4 HO_5 HO_368001 BK367 HR381_0 HB HL383_0 HL385_0 HL387_0 HL389_0 HL391_0 HR383_0 HR385_0 HR387_0 HR389_0 HR391_0 hx383_0 hx384_0 hx385_0 hx386_0 hx387_0 hx388_0 hx389_0 hx390_0 hx391_0 hx392_0 hHeld ⊢
         refine pz_ 0 75 ba11_36 HT_ ?_
         refine pz_ 1 76 ba11_37 HT_ ?_
         refine pz_ 2 77 ba11_38 HT_ ?_
         refine pz_ 4 79 ba11_39 HT_ ?_
         refine pt_ 3 78 ba11_40 HT_ HW_ hHeld ?_
         refine pz_ 5 80 ba11_41 HT_ ?_
         refine pt_ 6 81 ba11_42 HT_ HW_ hHeld ?_
         refine pz_ 7 82 ba11_43 HT_ ?_
         refine pz_ 8 83 ba11_44 HT_ ?_
         refine pz_ 9 84 ba11_45 HT_ ?_
         refine pz_ 10 85 ba11_46 HT_ ?_
         refine pz_ 11 86 ba11_47 HT_ ?_
         refine pz_ 13 88 ba11_48 HT_ ?_
         refine pt_ 12 87 ba11_49 HT_ HW_ hHeld ?_
         refine pz_ 14 89 ba11_50 HT_ ?_
         refine pt_ 15 90 ba11_51 HT_ HW_ hHeld ?_
         refine pz_ 16 91 ba11_52 HT_ ?_
         refine pz_ 17 92 ba11_53 HT_ ?_
         refine pz_ 18 93 ba11_54 HT_ ?_
         refine pz_ 19 94 ba11_55 HT_ ?_
         refine pz_ 20 95 ba11_56 HT_ ?_
         refine pz_ 21 96 ba11_57 HT_ ?_
         refine pz_ 23 98 ba11_58 HT_ ?_
         refine pz_ 26 101 ba11_59 HT_ ?_
         refine pz_ 27 102 ba11_60 HT_ ?_
         refine pz_ 28 103 ba11_61 HT_ ?_
         refine pz_ 30 105 ba11_62 HT_ ?_
         refine pz_ 33 108 ba11_63 HT_ ?_
         refine pz_ 34 109 ba11_64 HT_ ?_
         refine pz_ 35 110 ba11_65 HT_ ?_
         refine pz_ 37 112 ba11_66 HT_ ?_
         refine pt_ 22 97 ba11_67 HT_ HW_ hHeld ?_
         refine pz_ 24 99 ba11_68 HT_ ?_
         refine pt_ 25 100 ba11_69 HT_ HW_ hHeld ?_
         refine pt_ 29 104 ba11_70 HT_ HW_ hHeld ?_
         refine pz_ 31 106 ba11_71 HT_ ?_
         refine pt_ 32 107 ba11_72 HT_ HW_ hHeld ?_
         refine pt_ 36 111 ba11_73 HT_ HW_ hHeld ?_
         refine pz_ 38 113 ba11_74 HT_ ?_
         refine pt_ 39 114 ba11_75 HT_ HW_ hHeld ?_
         refine pz_ 40 115 ba11_76 HT_ ?_
         refine pz_ 41 116 ba11_77 HT_ ?_
         refine pz_ 42 117 ba11_78 HT_ ?_
         refine done_ (done_of HT_.out (by kernel_rfl)) ?_
         try go_wp2
         go_roundg k4
         case measure => have := HK1.out; have := HJ21.out; have := HK3.out; have := HK4.out; omega
         case rel => exact ⟨(wrap64 (x8_4 + 1)), (by first | rfl | (simp; done) | (simp [*]; done)), H', ⟨by have := HK1.out; have := HJ21.out; have := HK3.out; have := HK4.out; omega⟩, ⟨by (with_reducible repeat (first | apply Kd.S_alloc | apply Kd.S_drewN | apply Kd.S_drew)); exact HO_4.out⟩, ⟨by (with_reducible repeat (first | apply Kd.S_alloc | apply Kd.S_drewN | apply Kd.S_drew)); exact HO_5.out⟩, ⟨by (with_reducible repeat (first | apply Kd.R_alloc | apply Kd.R_drewN | apply Kd.R_drew)); exact HO_368001.out⟩, ⟨by (with_reducible repeat (first | refine blk_drewN ?_ _ | refine blk_drew ?_ | refine blk_alloc ?_ _)); exact BK367.out⟩, ⟨by repeat (first | (with_reducible exact HR381_0.out) | (with_reducible refine Kd.C_alloc ?_ _) | (with_reducible refine Kd.C_drewN ?_ _) | (with_reducible refine Kd.C_drew ?_) | exact HR381_0.out)⟩, ⟨by repeat (first | (with_reducible first | exact HB.out | apply below_alloc | apply pw_below_drewN | apply below_drew1 | refine below_set ?_ GE367.out) | exact HB.out)⟩⟩

/-- THE ONE PURE STATEMENT of laws_FnTriangle: yours. -/
def laws_FnTriangle.Pure : Prop := ∀ (l0 : List Int), l0.length ≤ maxLen → l0.length * 1 ≤ 140737488351232 → (∀ x ∈ l0, (Lit.int .u8 x).wf = true) → ∃ k, laws_FnTriangle.f k l0 = some true
theorem laws_FnTriangle.walk (P : laws_FnTriangle.Pure) (a0 : Option Addr) (len0 cap0 : Nat) (z0 : List Int) (w : World) (w0 : (a0 = none ∧ len0 = 0 ∧ cap0 = 0 ∧ z0 = []) ∨ ∃ x, a0 = some x ∧ len0 ≤ cap0 ∧ cap0 ≤ maxLen ∧ z0.length = cap0 ∧ (∀ i, i < z0.length → w.cell? (x.add i) = some (.int .u8 (z0.getD i 0))) ∧ ∀ n ∈ z0, (Lit.int .u8 n).wf = true) (y0 : len0 * 1 ≤ 140737488351232) :
  Calls Try.prog 6 #[.slice a0 len0 cap0] w fun e w' => e = .returned (.bool true) ∧ Below w.heap.size w w' := by
 obtain ⟨l0, rfl, hr0, hm0, hw0, hc0⟩ := ReadsInt.ofRowC w0
 obtain ⟨k, h⟩ := P l0 hm0 y0 hw0
 refine (laws_FnTriangle.calls k _ _ l0 true w (Kd.C_of_reads (d := (0 : Int)) (h1 := fun _ => rfl) hr0) hc0 h).mono ?_
 rintro e w' ⟨rfl, hd⟩
 exact ⟨rfl, hd⟩

end Go.Proofs.Ythmahcohcphljaa.QFnTriangle
