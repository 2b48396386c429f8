/- The seat's program is what the machine runs. Printed by a program of mine (seatgen.py). -/
import Derived.Test.YtlojpagbcdpjmaaCode
import Derived.Test.YtlojpagbcdpjmaaProg

set_option linter.unnecessarySimpa false
set_option linter.unusedVariables false
set_option linter.unusedSimpArgs false
set_option linter.unusedSectionVars false
/-! CsPar -/
namespace Camp.S
open Go Go.Proofs
def tbl : List Nat := [1000000, 1000000, 1000000, 52, 67, 68, 69, 70, 71, 53, 54, 55, 13, 56, 57, 58, 59, 60, 61, 62, 63, 64, 65, 66, 72, 73, 44, 74, 76, 75, 77, 78, 79, 80, 81, 83, 82, 84, 85, 86, 46, 87, 88, 89, 90, 91, 92, 93, 94, 95, 96, 97, 98, 99, 100, 101, 102, 103, 104, 105, 106, 47, 107, 108, 109, 110, 111, 112, 113, 114, 115, 116, 1000000, 1000000, 1000000, 1000000, 1000000, 1000000, 1000000, 1000000, 1000000, 1000000, 1000000, 1000000, 1000000, 1000000, 1000000, 1000000]
abbrev rn : FuncId → Nat := rnOf tbl
theorem c52 : CFn Try.prog rn (DJ Try.prog rn) Try.f3 n52 := cfn_ok [12] (by kernel_rfl) (by kernel_rfl) (by kernel_rfl) (by kernel_rfl)
theorem c67 : CFn Try.prog rn (DJ Try.prog rn) Try.f4 n67 := cfn_ok [1] (by kernel_rfl) (by kernel_rfl) (by kernel_rfl) (by kernel_rfl)
theorem c68 : CFn Try.prog rn (DJ Try.prog rn) Try.f5 n68 := cfn_ok [10] (by kernel_rfl) (by kernel_rfl) (by kernel_rfl) (by kernel_rfl)
theorem c69 : CFn Try.prog rn (DJ Try.prog rn) Try.f6 n69 := cfn_ok [51, 59] (by kernel_rfl) (by kernel_rfl) (by kernel_rfl) (by kernel_rfl)
theorem c70 : CFn Try.prog rn (DJ Try.prog rn) Try.f7 n70 := cfn_ok [] (by kernel_rfl) (by kernel_rfl) (by kernel_rfl) (by kernel_rfl)
theorem c71 : CFn Try.prog rn (DJ Try.prog rn) Try.f8 n71 := cfn_ok [] (by kernel_rfl) (by kernel_rfl) (by kernel_rfl) (by kernel_rfl)
theorem c53 : CFn Try.prog rn (DJ Try.prog rn) Try.f9 n53 := cfn_ok [] (by kernel_rfl) (by kernel_rfl) (by kernel_rfl) (by kernel_rfl)
theorem c54 : CFn Try.prog rn (DJ Try.prog rn) Try.f10 n54 := cfn_ok [] (by kernel_rfl) (by kernel_rfl) (by kernel_rfl) (by kernel_rfl)
theorem c55 : CFn Try.prog rn (DJ Try.prog rn) Try.f11 n55 := cfn_ok [] (by kernel_rfl) (by kernel_rfl) (by kernel_rfl) (by kernel_rfl)
theorem c13 : CFn Try.prog rn (DJ Try.prog rn) Try.f12 n13 := cfn_ok [] (by kernel_rfl) (by kernel_rfl) (by kernel_rfl) (by kernel_rfl)
theorem c56 : CFn Try.prog rn (DJ Try.prog rn) Try.f13 n56 := cfn_ok [10, 37] (by kernel_rfl) (by kernel_rfl) (by kernel_rfl) (by kernel_rfl)
theorem c57 : CFn Try.prog rn (DJ Try.prog rn) Try.f14 n57 := cfn_ok [7, 10, 40, 55] (by kernel_rfl) (by kernel_rfl) (by kernel_rfl) (by kernel_rfl)
theorem c58 : CFn Try.prog rn (DJ Try.prog rn) Try.f15 n58 := cfn_ok [] (by kernel_rfl) (by kernel_rfl) (by kernel_rfl) (by kernel_rfl)
theorem c59 : CFn Try.prog rn (DJ Try.prog rn) Try.f16 n59 := cfn_ok [12, 148] (by kernel_rfl) (by kernel_rfl) (by kernel_rfl) (by kernel_rfl)
theorem c60 : CFn Try.prog rn (DJ Try.prog rn) Try.f17 n60 := cfn_ok [] (by kernel_rfl) (by kernel_rfl) (by kernel_rfl) (by kernel_rfl)
theorem c61 : CFn Try.prog rn (DJ Try.prog rn) Try.f18 n61 := cfn_ok [] (by kernel_rfl) (by kernel_rfl) (by kernel_rfl) (by kernel_rfl)
theorem c62 : CFn Try.prog rn (DJ Try.prog rn) Try.f19 n62 := cfn_ok [7] (by kernel_rfl) (by kernel_rfl) (by kernel_rfl) (by kernel_rfl)
theorem c63 : CFn Try.prog rn (DJ Try.prog rn) Try.f20 n63 := cfn_ok [7] (by kernel_rfl) (by kernel_rfl) (by kernel_rfl) (by kernel_rfl)
theorem c64 : CFn Try.prog rn (DJ Try.prog rn) Try.f21 n64 := cfn_ok [5, 20] (by kernel_rfl) (by kernel_rfl) (by kernel_rfl) (by kernel_rfl)
theorem c65 : CFn Try.prog rn (DJ Try.prog rn) Try.f22 n65 := cfn_ok [5, 18] (by kernel_rfl) (by kernel_rfl) (by kernel_rfl) (by kernel_rfl)
theorem c66 : CFn Try.prog rn (DJ Try.prog rn) Try.f23 n66 := cfn_ok [] (by kernel_rfl) (by kernel_rfl) (by kernel_rfl) (by kernel_rfl)
theorem c72 : CFn Try.prog rn (DJ Try.prog rn) Try.f24 n72 := cfn_ok [] (by kernel_rfl) (by kernel_rfl) (by kernel_rfl) (by kernel_rfl)
theorem c73 : CFn Try.prog rn (DJ Try.prog rn) Try.f25 n73 := cfn_ok [] (by kernel_rfl) (by kernel_rfl) (by kernel_rfl) (by kernel_rfl)
theorem c44 : CFn Try.prog rn (DJ Try.prog rn) Try.f26 n44 := cfn_ok [] (by kernel_rfl) (by kernel_rfl) (by kernel_rfl) (by kernel_rfl)
theorem c74 : CFn Try.prog rn (DJ Try.prog rn) Try.f27 n74 := cfn_ok [] (by kernel_rfl) (by kernel_rfl) (by kernel_rfl) (by kernel_rfl)
theorem c76 : CFn Try.prog rn (DJ Try.prog rn) Try.f28 n76 := cfn_ok [] (by kernel_rfl) (by kernel_rfl) (by kernel_rfl) (by kernel_rfl)
theorem c75 : CFn Try.prog rn (DJ Try.prog rn) Try.f29 n75 := cfn_ok [2] (by kernel_rfl) (by kernel_rfl) (by kernel_rfl) (by kernel_rfl)
theorem c77 : CFn Try.prog rn (DJ Try.prog rn) Try.f30 n77 := cfn_ok [2] (by kernel_rfl) (by kernel_rfl) (by kernel_rfl) (by kernel_rfl)
theorem c78 : CFn Try.prog rn (DJ Try.prog rn) Try.f31 n78 := cfn_ok [] (by kernel_rfl) (by kernel_rfl) (by kernel_rfl) (by kernel_rfl)
theorem c79 : CFn Try.prog rn (DJ Try.prog rn) Try.f32 n79 := cfn_ok [2, 3] (by kernel_rfl) (by kernel_rfl) (by kernel_rfl) (by kernel_rfl)
theorem c80 : CFn Try.prog rn (DJ Try.prog rn) Try.f33 n80 := cfn_ok [2] (by kernel_rfl) (by kernel_rfl) (by kernel_rfl) (by kernel_rfl)
theorem c81 : CFn Try.prog rn (DJ Try.prog rn) Try.f34 n81 := cfn_ok [6, 22] (by kernel_rfl) (by kernel_rfl) (by kernel_rfl) (by kernel_rfl)
theorem c83 : CFn Try.prog rn (DJ Try.prog rn) Try.f35 n83 := cfn_ok [] (by kernel_rfl) (by kernel_rfl) (by kernel_rfl) (by kernel_rfl)
theorem c82 : CFn Try.prog rn (DJ Try.prog rn) Try.f36 n82 := cfn_ok [] (by kernel_rfl) (by kernel_rfl) (by kernel_rfl) (by kernel_rfl)
theorem c84 : CFn Try.prog rn (DJ Try.prog rn) Try.f37 n84 := cfn_ok [7] (by kernel_rfl) (by kernel_rfl) (by kernel_rfl) (by kernel_rfl)
theorem c85 : CFn Try.prog rn (DJ Try.prog rn) Try.f38 n85 := cfn_ok [] (by kernel_rfl) (by kernel_rfl) (by kernel_rfl) (by kernel_rfl)
theorem c86 : CFn Try.prog rn (DJ Try.prog rn) Try.f39 n86 := cfn_ok [] (by kernel_rfl) (by kernel_rfl) (by kernel_rfl) (by kernel_rfl)
theorem c46 : CFn Try.prog rn (DJ Try.prog rn) Try.f40 n46 := cfn_ok [] (by kernel_rfl) (by kernel_rfl) (by kernel_rfl) (by kernel_rfl)
theorem c87 : CFn Try.prog rn (DJ Try.prog rn) Try.f41 n87 := cfn_ok [] (by kernel_rfl) (by kernel_rfl) (by kernel_rfl) (by kernel_rfl)
theorem c88 : CFn Try.prog rn (DJ Try.prog rn) Try.f42 n88 := cfn_ok [] (by kernel_rfl) (by kernel_rfl) (by kernel_rfl) (by kernel_rfl)
theorem c89 : CFn Try.prog rn (DJ Try.prog rn) Try.f43 n89 := cfn_ok [] (by kernel_rfl) (by kernel_rfl) (by kernel_rfl) (by kernel_rfl)
theorem c90 : CFn Try.prog rn (DJ Try.prog rn) Try.f44 n90 := cfn_ok [] (by kernel_rfl) (by kernel_rfl) (by kernel_rfl) (by kernel_rfl)
theorem c91 : CFn Try.prog rn (DJ Try.prog rn) Try.f45 n91 := cfn_ok [] (by kernel_rfl) (by kernel_rfl) (by kernel_rfl) (by kernel_rfl)
theorem c92 : CFn Try.prog rn (DJ Try.prog rn) Try.f46 n92 := cfn_ok [] (by kernel_rfl) (by kernel_rfl) (by kernel_rfl) (by kernel_rfl)
theorem c93 : CFn Try.prog rn (DJ Try.prog rn) Try.f47 n93 := cfn_ok [] (by kernel_rfl) (by kernel_rfl) (by kernel_rfl) (by kernel_rfl)
theorem c94 : CFn Try.prog rn (DJ Try.prog rn) Try.f48 n94 := cfn_ok [] (by kernel_rfl) (by kernel_rfl) (by kernel_rfl) (by kernel_rfl)
theorem c95 : CFn Try.prog rn (DJ Try.prog rn) Try.f49 n95 := cfn_ok [] (by kernel_rfl) (by kernel_rfl) (by kernel_rfl) (by kernel_rfl)
theorem c96 : CFn Try.prog rn (DJ Try.prog rn) Try.f50 n96 := cfn_ok [] (by kernel_rfl) (by kernel_rfl) (by kernel_rfl) (by kernel_rfl)
theorem c97 : CFn Try.prog rn (DJ Try.prog rn) Try.f51 n97 := cfn_ok [] (by kernel_rfl) (by kernel_rfl) (by kernel_rfl) (by kernel_rfl)
theorem c98 : CFn Try.prog rn (DJ Try.prog rn) Try.f52 n98 := cfn_ok [] (by kernel_rfl) (by kernel_rfl) (by kernel_rfl) (by kernel_rfl)
theorem c99 : CFn Try.prog rn (DJ Try.prog rn) Try.f53 n99 := cfn_ok [] (by kernel_rfl) (by kernel_rfl) (by kernel_rfl) (by kernel_rfl)
theorem c100 : CFn Try.prog rn (DJ Try.prog rn) Try.f54 n100 := cfn_ok [] (by kernel_rfl) (by kernel_rfl) (by kernel_rfl) (by kernel_rfl)
theorem c101 : CFn Try.prog rn (DJ Try.prog rn) Try.f55 n101 := cfn_ok [] (by kernel_rfl) (by kernel_rfl) (by kernel_rfl) (by kernel_rfl)
theorem c102 : CFn Try.prog rn (DJ Try.prog rn) Try.f56 n102 := cfn_ok [] (by kernel_rfl) (by kernel_rfl) (by kernel_rfl) (by kernel_rfl)
theorem c103 : CFn Try.prog rn (DJ Try.prog rn) Try.f57 n103 := cfn_ok [] (by kernel_rfl) (by kernel_rfl) (by kernel_rfl) (by kernel_rfl)
theorem c104 : CFn Try.prog rn (DJ Try.prog rn) Try.f58 n104 := cfn_ok [] (by kernel_rfl) (by kernel_rfl) (by kernel_rfl) (by kernel_rfl)
theorem c105 : CFn Try.prog rn (DJ Try.prog rn) Try.f59 n105 := cfn_ok [] (by kernel_rfl) (by kernel_rfl) (by kernel_rfl) (by kernel_rfl)
theorem c106 : CFn Try.prog rn (DJ Try.prog rn) Try.f60 n106 := cfn_ok [] (by kernel_rfl) (by kernel_rfl) (by kernel_rfl) (by kernel_rfl)
theorem c47 : CFn Try.prog rn (DJ Try.prog rn) Try.f61 n47 := cfn_ok [] (by kernel_rfl) (by kernel_rfl) (by kernel_rfl) (by kernel_rfl)
theorem c107 : CFn Try.prog rn (DJ Try.prog rn) Try.f62 n107 := cfn_ok [] (by kernel_rfl) (by kernel_rfl) (by kernel_rfl) (by kernel_rfl)
theorem c108 : CFn Try.prog rn (DJ Try.prog rn) Try.f63 n108 := cfn_ok [] (by kernel_rfl) (by kernel_rfl) (by kernel_rfl) (by kernel_rfl)
theorem c109 : CFn Try.prog rn (DJ Try.prog rn) Try.f64 n109 := cfn_ok [] (by kernel_rfl) (by kernel_rfl) (by kernel_rfl) (by kernel_rfl)
theorem c110 : CFn Try.prog rn (DJ Try.prog rn) Try.f65 n110 := cfn_ok [] (by kernel_rfl) (by kernel_rfl) (by kernel_rfl) (by kernel_rfl)
theorem c111 : CFn Try.prog rn (DJ Try.prog rn) Try.f66 n111 := cfn_ok [] (by kernel_rfl) (by kernel_rfl) (by kernel_rfl) (by kernel_rfl)
theorem c112 : CFn Try.prog rn (DJ Try.prog rn) Try.f67 n112 := cfn_ok [] (by kernel_rfl) (by kernel_rfl) (by kernel_rfl) (by kernel_rfl)
theorem c113 : CFn Try.prog rn (DJ Try.prog rn) Try.f68 n113 := cfn_ok [] (by kernel_rfl) (by kernel_rfl) (by kernel_rfl) (by kernel_rfl)
theorem c114 : CFn Try.prog rn (DJ Try.prog rn) Try.f69 n114 := cfn_ok [] (by kernel_rfl) (by kernel_rfl) (by kernel_rfl) (by kernel_rfl)
theorem c115 : CFn Try.prog rn (DJ Try.prog rn) Try.f70 n115 := cfn_ok [] (by kernel_rfl) (by kernel_rfl) (by kernel_rfl) (by kernel_rfl)
theorem c116 : CFn Try.prog rn (DJ Try.prog rn) Try.f71 n116 := cfn_ok [] (by kernel_rfl) (by kernel_rfl) (by kernel_rfl) (by kernel_rfl)
theorem all : AllOk Try.prog rn N tbl 0 :=
  ⟨ok_none rfl,
   ok_none rfl,
   ok_none rfl,
   ok_some rfl Try.func3 c52,
   ok_some rfl Try.func4 c67,
   ok_some rfl Try.func5 c68,
   ok_some rfl Try.func6 c69,
   ok_some rfl Try.func7 c70,
   ok_some rfl Try.func8 c71,
   ok_some rfl Try.func9 c53,
   ok_some rfl Try.func10 c54,
   ok_some rfl Try.func11 c55,
   ok_some rfl Try.func12 c13,
   ok_some rfl Try.func13 c56,
   ok_some rfl Try.func14 c57,
   ok_some rfl Try.func15 c58,
   ok_some rfl Try.func16 c59,
   ok_some rfl Try.func17 c60,
   ok_some rfl Try.func18 c61,
   ok_some rfl Try.func19 c62,
   ok_some rfl Try.func20 c63,
   ok_some rfl Try.func21 c64,
   ok_some rfl Try.func22 c65,
   ok_some rfl Try.func23 c66,
   ok_some rfl Try.func24 c72,
   ok_some rfl Try.func25 c73,
   ok_some rfl Try.func26 c44,
   ok_some rfl Try.func27 c74,
   ok_some rfl Try.func28 c76,
   ok_some rfl Try.func29 c75,
   ok_some rfl Try.func30 c77,
   ok_some rfl Try.func31 c78,
   ok_some rfl Try.func32 c79,
   ok_some rfl Try.func33 c80,
   ok_some rfl Try.func34 c81,
   ok_some rfl Try.func35 c83,
   ok_some rfl Try.func36 c82,
   ok_some rfl Try.func37 c84,
   ok_some rfl Try.func38 c85,
   ok_some rfl Try.func39 c86,
   ok_some rfl Try.func40 c46,
   ok_some rfl Try.func41 c87,
   ok_some rfl Try.func42 c88,
   ok_some rfl Try.func43 c89,
   ok_some rfl Try.func44 c90,
   ok_some rfl Try.func45 c91,
   ok_some rfl Try.func46 c92,
   ok_some rfl Try.func47 c93,
   ok_some rfl Try.func48 c94,
   ok_some rfl Try.func49 c95,
   ok_some rfl Try.func50 c96,
   ok_some rfl Try.func51 c97,
   ok_some rfl Try.func52 c98,
   ok_some rfl Try.func53 c99,
   ok_some rfl Try.func54 c100,
   ok_some rfl Try.func55 c101,
   ok_some rfl Try.func56 c102,
   ok_some rfl Try.func57 c103,
   ok_some rfl Try.func58 c104,
   ok_some rfl Try.func59 c105,
   ok_some rfl Try.func60 c106,
   ok_some rfl Try.func61 c47,
   ok_some rfl Try.func62 c107,
   ok_some rfl Try.func63 c108,
   ok_some rfl Try.func64 c109,
   ok_some rfl Try.func65 c110,
   ok_some rfl Try.func66 c111,
   ok_some rfl Try.func67 c112,
   ok_some rfl Try.func68 c113,
   ok_some rfl Try.func69 c114,
   ok_some rfl Try.func70 c115,
   ok_some rfl Try.func71 c116,
   ok_none rfl,
   ok_none rfl,
   ok_none rfl,
   ok_none rfl,
   ok_none rfl,
   ok_none rfl,
   ok_none rfl,
   ok_none rfl,
   ok_none rfl,
   ok_none rfl,
   ok_none rfl,
   ok_none rfl,
   ok_none rfl,
   ok_none rfl,
   ok_none rfl,
   ok_none rfl, trivial⟩
theorem hprog : HProg Try.prog rn (DJ Try.prog rn) N := hprog_of all rfl
theorem mixed : Try.prog.follows .mixedOrders = true := by kernel_rfl
end Camp.S
