/- Facts of the program: types and functions, by the kernel (printed by facts.py). -/
import Derived.Test.YtnnklpmgncbgnaaEngO
import Derived.Test.YtnnklpmgncbgnaaChecked
import Derived.KernelRfl
namespace Go.Proofs.Ytnnklpmgncbgnaa
open Go
/-- Conditions in their plain form. -/
theorem nrm : (∀ (p : Prop) [Decidable p], (decide p = true) = p) ∧ (∀ (p : Prop) [Decidable p], (decide p = false) = ¬p) ∧ (∀ b : Bool, ((!b) = true) = (b = false)) ∧ (∀ b : Bool, ((!b) = false) = (b = true)) ∧ (∀ {α : Type} [BEq α] [LawfulBEq α] {a b : α}, ((a == b) = true) ↔ a = b) ∧ (∀ {α : Type} [BEq α] [LawfulBEq α] {a b : α}, ((a != b) = true) ↔ a ≠ b) ∧ (∀ {α : Type} [BEq α] [LawfulBEq α] {a b : α}, ((a == b) = false) ↔ a ≠ b) ∧ (∀ {α : Type} [BEq α] [LawfulBEq α] {a b : α}, ((a != b) = false) ↔ a = b) ∧ (∀ a b : Bool, ((a || b) = true) = (a = true ∨ b = true)) ∧ (∀ a b : Bool, ((a && b) = true) = (a = true ∧ b = true)) ∧ (∀ a b : Bool, ((a || b) = false) = (a = false ∧ b = false)) ∧ (∀ {α : Type} [LT α] {a b : α}, (a > b) ↔ b < a) ∧ (∀ {α : Type} [LE α] {a b : α}, (a ≥ b) ↔ b ≤ a) := ⟨fun _ _ => decide_eq_true_eq, fun _ _ => propext decide_eq_false_iff_not, fun b => by cases b <;> simp, fun b => by cases b <;> simp, beq_iff_eq, bne_iff_ne, beq_eq_false_iff_ne, bne_eq_false_iff_eq, Bool.or_eq_true, Bool.and_eq_true, fun a b => by cases a <;> cases b <;> simp, gt_iff_lt, ge_iff_le⟩
theorem info0 : Try.prog.info? 0 = some Try.t0 := by kernel_rfl
theorem info1 : Try.prog.info? 1 = some Try.t1 := by kernel_rfl
theorem info2 : Try.prog.info? 2 = some Try.t2 := by kernel_rfl
theorem info3 : Try.prog.info? 3 = some Try.t3 := by kernel_rfl
theorem info4 : Try.prog.info? 4 = some Try.t4 := by kernel_rfl
theorem info5 : Try.prog.info? 5 = some Try.t5 := by kernel_rfl
theorem info6 : Try.prog.info? 6 = some Try.t6 := by kernel_rfl
theorem info7 : Try.prog.info? 7 = some Try.t7 := by kernel_rfl
theorem info8 : Try.prog.info? 8 = some Try.t8 := by kernel_rfl
theorem info9 : Try.prog.info? 9 = some Try.t9 := by kernel_rfl
theorem info10 : Try.prog.info? 10 = some Try.t10 := by kernel_rfl
theorem info11 : Try.prog.info? 11 = some Try.t11 := by kernel_rfl
theorem info12 : Try.prog.info? 12 = some Try.t12 := by kernel_rfl
theorem info13 : Try.prog.info? 13 = some Try.t13 := by kernel_rfl
theorem info14 : Try.prog.info? 14 = some Try.t14 := by kernel_rfl
theorem info15 : Try.prog.info? 15 = some Try.t15 := by kernel_rfl
theorem info16 : Try.prog.info? 16 = some Try.t16 := by kernel_rfl
theorem info17 : Try.prog.info? 17 = some Try.t17 := by kernel_rfl
theorem info18 : Try.prog.info? 18 = some Try.t18 := by kernel_rfl
theorem info19 : Try.prog.info? 19 = some Try.t19 := by kernel_rfl
theorem info20 : Try.prog.info? 20 = some Try.t20 := by kernel_rfl
theorem info21 : Try.prog.info? 21 = some Try.t21 := by kernel_rfl
theorem info22 : Try.prog.info? 22 = some Try.t22 := by kernel_rfl
theorem info23 : Try.prog.info? 23 = some Try.t23 := by kernel_rfl
theorem info24 : Try.prog.info? 24 = some Try.t24 := by kernel_rfl
theorem info25 : Try.prog.info? 25 = some Try.t25 := by kernel_rfl
theorem info26 : Try.prog.info? 26 = some Try.t26 := by kernel_rfl
theorem info27 : Try.prog.info? 27 = some Try.t27 := by kernel_rfl
theorem info28 : Try.prog.info? 28 = some Try.t28 := by kernel_rfl
theorem info29 : Try.prog.info? 29 = some Try.t29 := by kernel_rfl
theorem info30 : Try.prog.info? 30 = some Try.t30 := by kernel_rfl
theorem info31 : Try.prog.info? 31 = some Try.t31 := by kernel_rfl
theorem info32 : Try.prog.info? 32 = some Try.t32 := by kernel_rfl
theorem info33 : Try.prog.info? 33 = some Try.t33 := by kernel_rfl
theorem info34 : Try.prog.info? 34 = some Try.t34 := by kernel_rfl
theorem info35 : Try.prog.info? 35 = some Try.t35 := by kernel_rfl
theorem info36 : Try.prog.info? 36 = some Try.t36 := by kernel_rfl
theorem info37 : Try.prog.info? 37 = some Try.t37 := by kernel_rfl
theorem info38 : Try.prog.info? 38 = some Try.t38 := by kernel_rfl
theorem info39 : Try.prog.info? 39 = some Try.t39 := by kernel_rfl
theorem info40 : Try.prog.info? 40 = some Try.t40 := by kernel_rfl
theorem info41 : Try.prog.info? 41 = some Try.t41 := by kernel_rfl
theorem info42 : Try.prog.info? 42 = some Try.t42 := by kernel_rfl
theorem info43 : Try.prog.info? 43 = some Try.t43 := by kernel_rfl
theorem info44 : Try.prog.info? 44 = some Try.t44 := by kernel_rfl
theorem info45 : Try.prog.info? 45 = some Try.t45 := by kernel_rfl
theorem info46 : Try.prog.info? 46 = some Try.t46 := by kernel_rfl
theorem info47 : Try.prog.info? 47 = some Try.t47 := by kernel_rfl
theorem info48 : Try.prog.info? 48 = some Try.t48 := by kernel_rfl
theorem info49 : Try.prog.info? 49 = some Try.t49 := by kernel_rfl
theorem info50 : Try.prog.info? 50 = some Try.t50 := by kernel_rfl
theorem info51 : Try.prog.info? 51 = some Try.t51 := by kernel_rfl
theorem info52 : Try.prog.info? 52 = some Try.t52 := by kernel_rfl
theorem info53 : Try.prog.info? 53 = some Try.t53 := by kernel_rfl
theorem info54 : Try.prog.info? 54 = some Try.t54 := by kernel_rfl
theorem info55 : Try.prog.info? 55 = some Try.t55 := by kernel_rfl
theorem info56 : Try.prog.info? 56 = some Try.t56 := by kernel_rfl
theorem info57 : Try.prog.info? 57 = some Try.t57 := by kernel_rfl
theorem info58 : Try.prog.info? 58 = some Try.t58 := by kernel_rfl
theorem info59 : Try.prog.info? 59 = some Try.t59 := by kernel_rfl
theorem info60 : Try.prog.info? 60 = some Try.t60 := by kernel_rfl
theorem info61 : Try.prog.info? 61 = some Try.t61 := by kernel_rfl
theorem info62 : Try.prog.info? 62 = some Try.t62 := by kernel_rfl
theorem info63 : Try.prog.info? 63 = some Try.t63 := by kernel_rfl
theorem info64 : Try.prog.info? 64 = some Try.t64 := by kernel_rfl
theorem info65 : Try.prog.info? 65 = some Try.t65 := by kernel_rfl
theorem info66 : Try.prog.info? 66 = some Try.t66 := by kernel_rfl
theorem info67 : Try.prog.info? 67 = some Try.t67 := by kernel_rfl
theorem info68 : Try.prog.info? 68 = some Try.t68 := by kernel_rfl
theorem info69 : Try.prog.info? 69 = some Try.t69 := by kernel_rfl
theorem info70 : Try.prog.info? 70 = some Try.t70 := by kernel_rfl
theorem info71 : Try.prog.info? 71 = some Try.t71 := by kernel_rfl
theorem info72 : Try.prog.info? 72 = some Try.t72 := by kernel_rfl
theorem info73 : Try.prog.info? 73 = some Try.t73 := by kernel_rfl
theorem info74 : Try.prog.info? 74 = some Try.t74 := by kernel_rfl
theorem info75 : Try.prog.info? 75 = some Try.t75 := by kernel_rfl
theorem info76 : Try.prog.info? 76 = some Try.t76 := by kernel_rfl
theorem info77 : Try.prog.info? 77 = some Try.t77 := by kernel_rfl
theorem info78 : Try.prog.info? 78 = some Try.t78 := by kernel_rfl
theorem info79 : Try.prog.info? 79 = some Try.t79 := by kernel_rfl
theorem info80 : Try.prog.info? 80 = some Try.t80 := by kernel_rfl
theorem info81 : Try.prog.info? 81 = some Try.t81 := by kernel_rfl
theorem info82 : Try.prog.info? 82 = some Try.t82 := by kernel_rfl
theorem info83 : Try.prog.info? 83 = some Try.t83 := by kernel_rfl
theorem info84 : Try.prog.info? 84 = some Try.t84 := by kernel_rfl
theorem info85 : Try.prog.info? 85 = some Try.t85 := by kernel_rfl
theorem info86 : Try.prog.info? 86 = some Try.t86 := by kernel_rfl
theorem info87 : Try.prog.info? 87 = some Try.t87 := by kernel_rfl
theorem info88 : Try.prog.info? 88 = some Try.t88 := by kernel_rfl
theorem info89 : Try.prog.info? 89 = some Try.t89 := by kernel_rfl
theorem info90 : Try.prog.info? 90 = some Try.t90 := by kernel_rfl
theorem info91 : Try.prog.info? 91 = some Try.t91 := by kernel_rfl
theorem info92 : Try.prog.info? 92 = some Try.t92 := by kernel_rfl
theorem info93 : Try.prog.info? 93 = some Try.t93 := by kernel_rfl
theorem info94 : Try.prog.info? 94 = some Try.t94 := by kernel_rfl
theorem info95 : Try.prog.info? 95 = some Try.t95 := by kernel_rfl
theorem info96 : Try.prog.info? 96 = some Try.t96 := by kernel_rfl
theorem info97 : Try.prog.info? 97 = some Try.t97 := by kernel_rfl
theorem info98 : Try.prog.info? 98 = some Try.t98 := by kernel_rfl
theorem info99 : Try.prog.info? 99 = some Try.t99 := by kernel_rfl
theorem info100 : Try.prog.info? 100 = some Try.t100 := by kernel_rfl
theorem info101 : Try.prog.info? 101 = some Try.t101 := by kernel_rfl
theorem info102 : Try.prog.info? 102 = some Try.t102 := by kernel_rfl
theorem info103 : Try.prog.info? 103 = some Try.t103 := by kernel_rfl
theorem info104 : Try.prog.info? 104 = some Try.t104 := by kernel_rfl
theorem info105 : Try.prog.info? 105 = some Try.t105 := by kernel_rfl
theorem info106 : Try.prog.info? 106 = some Try.t106 := by kernel_rfl
theorem info107 : Try.prog.info? 107 = some Try.t107 := by kernel_rfl
theorem info108 : Try.prog.info? 108 = some Try.t108 := by kernel_rfl
theorem info109 : Try.prog.info? 109 = some Try.t109 := by kernel_rfl
theorem info110 : Try.prog.info? 110 = some Try.t110 := by kernel_rfl
theorem info111 : Try.prog.info? 111 = some Try.t111 := by kernel_rfl
theorem info112 : Try.prog.info? 112 = some Try.t112 := by kernel_rfl
theorem info113 : Try.prog.info? 113 = some Try.t113 := by kernel_rfl
theorem info114 : Try.prog.info? 114 = some Try.t114 := by kernel_rfl
theorem info115 : Try.prog.info? 115 = some Try.t115 := by kernel_rfl
theorem info116 : Try.prog.info? 116 = some Try.t116 := by kernel_rfl
theorem info117 : Try.prog.info? 117 = some Try.t117 := by kernel_rfl
theorem info118 : Try.prog.info? 118 = some Try.t118 := by kernel_rfl
theorem info119 : Try.prog.info? 119 = some Try.t119 := by kernel_rfl
theorem info120 : Try.prog.info? 120 = some Try.t120 := by kernel_rfl
theorem info121 : Try.prog.info? 121 = some Try.t121 := by kernel_rfl
theorem info122 : Try.prog.info? 122 = some Try.t122 := by kernel_rfl
theorem info123 : Try.prog.info? 123 = some Try.t123 := by kernel_rfl
theorem info124 : Try.prog.info? 124 = some Try.t124 := by kernel_rfl
theorem info125 : Try.prog.info? 125 = some Try.t125 := by kernel_rfl
theorem info126 : Try.prog.info? 126 = some Try.t126 := by kernel_rfl
theorem info127 : Try.prog.info? 127 = some Try.t127 := by kernel_rfl
theorem info128 : Try.prog.info? 128 = some Try.t128 := by kernel_rfl
theorem info129 : Try.prog.info? 129 = some Try.t129 := by kernel_rfl
theorem info130 : Try.prog.info? 130 = some Try.t130 := by kernel_rfl
theorem info131 : Try.prog.info? 131 = some Try.t131 := by kernel_rfl
theorem info132 : Try.prog.info? 132 = some Try.t132 := by kernel_rfl
theorem info133 : Try.prog.info? 133 = some Try.t133 := by kernel_rfl
theorem info134 : Try.prog.info? 134 = some Try.t134 := by kernel_rfl
theorem info135 : Try.prog.info? 135 = some Try.t135 := by kernel_rfl
theorem info136 : Try.prog.info? 136 = some Try.t136 := by kernel_rfl
theorem info137 : Try.prog.info? 137 = some Try.t137 := by kernel_rfl
theorem info138 : Try.prog.info? 138 = some Try.t138 := by kernel_rfl
theorem info139 : Try.prog.info? 139 = some Try.t139 := by kernel_rfl
theorem info140 : Try.prog.info? 140 = some Try.t140 := by kernel_rfl
theorem info141 : Try.prog.info? 141 = some Try.t141 := by kernel_rfl
theorem info142 : Try.prog.info? 142 = some Try.t142 := by kernel_rfl
theorem info143 : Try.prog.info? 143 = some Try.t143 := by kernel_rfl
theorem info144 : Try.prog.info? 144 = some Try.t144 := by kernel_rfl
theorem info145 : Try.prog.info? 145 = some Try.t145 := by kernel_rfl
theorem info146 : Try.prog.info? 146 = some Try.t146 := by kernel_rfl
theorem info147 : Try.prog.info? 147 = some Try.t147 := by kernel_rfl
theorem info148 : Try.prog.info? 148 = some Try.t148 := by kernel_rfl
theorem info149 : Try.prog.info? 149 = some Try.t149 := by kernel_rfl
theorem info150 : Try.prog.info? 150 = some Try.t150 := by kernel_rfl
theorem info151 : Try.prog.info? 151 = some Try.t151 := by kernel_rfl
theorem info152 : Try.prog.info? 152 = some Try.t152 := by kernel_rfl
theorem info153 : Try.prog.info? 153 = some Try.t153 := by kernel_rfl
theorem info154 : Try.prog.info? 154 = some Try.t154 := by kernel_rfl
theorem info155 : Try.prog.info? 155 = some Try.t155 := by kernel_rfl
theorem info156 : Try.prog.info? 156 = some Try.t156 := by kernel_rfl
theorem info157 : Try.prog.info? 157 = some Try.t157 := by kernel_rfl
theorem info158 : Try.prog.info? 158 = some Try.t158 := by kernel_rfl
theorem info159 : Try.prog.info? 159 = some Try.t159 := by kernel_rfl
theorem info160 : Try.prog.info? 160 = some Try.t160 := by kernel_rfl
theorem info161 : Try.prog.info? 161 = some Try.t161 := by kernel_rfl
theorem info162 : Try.prog.info? 162 = some Try.t162 := by kernel_rfl
theorem info163 : Try.prog.info? 163 = some Try.t163 := by kernel_rfl
theorem info164 : Try.prog.info? 164 = some Try.t164 := by kernel_rfl
theorem info165 : Try.prog.info? 165 = some Try.t165 := by kernel_rfl
theorem info166 : Try.prog.info? 166 = some Try.t166 := by kernel_rfl
theorem info167 : Try.prog.info? 167 = some Try.t167 := by kernel_rfl
theorem info168 : Try.prog.info? 168 = some Try.t168 := by kernel_rfl
theorem info169 : Try.prog.info? 169 = some Try.t169 := by kernel_rfl
theorem info170 : Try.prog.info? 170 = some Try.t170 := by kernel_rfl
theorem info171 : Try.prog.info? 171 = some Try.t171 := by kernel_rfl
theorem into3 : Into Try.prog 3 := ⟨Try.f3, Try.func3, by kernel_rfl, by kernel_rfl⟩
theorem into4 : Into Try.prog 4 := ⟨Try.f4, Try.func4, by kernel_rfl, by kernel_rfl⟩
theorem into5 : Into Try.prog 5 := ⟨Try.f5, Try.func5, by kernel_rfl, by kernel_rfl⟩
theorem into6 : Into Try.prog 6 := ⟨Try.f6, Try.func6, by kernel_rfl, by kernel_rfl⟩
theorem into7 : Into Try.prog 7 := ⟨Try.f7, Try.func7, by kernel_rfl, by kernel_rfl⟩
theorem into8 : Into Try.prog 8 := ⟨Try.f8, Try.func8, by kernel_rfl, by kernel_rfl⟩
theorem into9 : Into Try.prog 9 := ⟨Try.f9, Try.func9, by kernel_rfl, by kernel_rfl⟩
theorem into10 : Into Try.prog 10 := ⟨Try.f10, Try.func10, by kernel_rfl, by kernel_rfl⟩
theorem into11 : Into Try.prog 11 := ⟨Try.f11, Try.func11, by kernel_rfl, by kernel_rfl⟩
theorem into12 : Into Try.prog 12 := ⟨Try.f12, Try.func12, by kernel_rfl, by kernel_rfl⟩
theorem into13 : Into Try.prog 13 := ⟨Try.f13, Try.func13, by kernel_rfl, by kernel_rfl⟩
theorem into14 : Into Try.prog 14 := ⟨Try.f14, Try.func14, by kernel_rfl, by kernel_rfl⟩
theorem into15 : Into Try.prog 15 := ⟨Try.f15, Try.func15, by kernel_rfl, by kernel_rfl⟩
theorem into16 : Into Try.prog 16 := ⟨Try.f16, Try.func16, by kernel_rfl, by kernel_rfl⟩
theorem into17 : Into Try.prog 17 := ⟨Try.f17, Try.func17, by kernel_rfl, by kernel_rfl⟩
theorem into18 : Into Try.prog 18 := ⟨Try.f18, Try.func18, by kernel_rfl, by kernel_rfl⟩
theorem into19 : Into Try.prog 19 := ⟨Try.f19, Try.func19, by kernel_rfl, by kernel_rfl⟩
theorem into20 : Into Try.prog 20 := ⟨Try.f20, Try.func20, by kernel_rfl, by kernel_rfl⟩
theorem into21 : Into Try.prog 21 := ⟨Try.f21, Try.func21, by kernel_rfl, by kernel_rfl⟩
theorem into22 : Into Try.prog 22 := ⟨Try.f22, Try.func22, by kernel_rfl, by kernel_rfl⟩
theorem into23 : Into Try.prog 23 := ⟨Try.f23, Try.func23, by kernel_rfl, by kernel_rfl⟩
theorem into24 : Into Try.prog 24 := ⟨Try.f24, Try.func24, by kernel_rfl, by kernel_rfl⟩
theorem into25 : Into Try.prog 25 := ⟨Try.f25, Try.func25, by kernel_rfl, by kernel_rfl⟩
theorem into26 : Into Try.prog 26 := ⟨Try.f26, Try.func26, by kernel_rfl, by kernel_rfl⟩
theorem into27 : Into Try.prog 27 := ⟨Try.f27, Try.func27, by kernel_rfl, by kernel_rfl⟩
theorem into28 : Into Try.prog 28 := ⟨Try.f28, Try.func28, by kernel_rfl, by kernel_rfl⟩
theorem into29 : Into Try.prog 29 := ⟨Try.f29, Try.func29, by kernel_rfl, by kernel_rfl⟩
theorem into30 : Into Try.prog 30 := ⟨Try.f30, Try.func30, by kernel_rfl, by kernel_rfl⟩
theorem into31 : Into Try.prog 31 := ⟨Try.f31, Try.func31, by kernel_rfl, by kernel_rfl⟩
theorem into32 : Into Try.prog 32 := ⟨Try.f32, Try.func32, by kernel_rfl, by kernel_rfl⟩
theorem into33 : Into Try.prog 33 := ⟨Try.f33, Try.func33, by kernel_rfl, by kernel_rfl⟩
theorem into34 : Into Try.prog 34 := ⟨Try.f34, Try.func34, by kernel_rfl, by kernel_rfl⟩
theorem into35 : Into Try.prog 35 := ⟨Try.f35, Try.func35, by kernel_rfl, by kernel_rfl⟩
theorem into36 : Into Try.prog 36 := ⟨Try.f36, Try.func36, by kernel_rfl, by kernel_rfl⟩
theorem into37 : Into Try.prog 37 := ⟨Try.f37, Try.func37, by kernel_rfl, by kernel_rfl⟩
theorem into38 : Into Try.prog 38 := ⟨Try.f38, Try.func38, by kernel_rfl, by kernel_rfl⟩
theorem into39 : Into Try.prog 39 := ⟨Try.f39, Try.func39, by kernel_rfl, by kernel_rfl⟩
theorem into40 : Into Try.prog 40 := ⟨Try.f40, Try.func40, by kernel_rfl, by kernel_rfl⟩
theorem into41 : Into Try.prog 41 := ⟨Try.f41, Try.func41, by kernel_rfl, by kernel_rfl⟩
theorem into42 : Into Try.prog 42 := ⟨Try.f42, Try.func42, by kernel_rfl, by kernel_rfl⟩
theorem into43 : Into Try.prog 43 := ⟨Try.f43, Try.func43, by kernel_rfl, by kernel_rfl⟩
theorem into44 : Into Try.prog 44 := ⟨Try.f44, Try.func44, by kernel_rfl, by kernel_rfl⟩
theorem into45 : Into Try.prog 45 := ⟨Try.f45, Try.func45, by kernel_rfl, by kernel_rfl⟩
theorem into46 : Into Try.prog 46 := ⟨Try.f46, Try.func46, by kernel_rfl, by kernel_rfl⟩
theorem into47 : Into Try.prog 47 := ⟨Try.f47, Try.func47, by kernel_rfl, by kernel_rfl⟩
theorem into48 : Into Try.prog 48 := ⟨Try.f48, Try.func48, by kernel_rfl, by kernel_rfl⟩
theorem into49 : Into Try.prog 49 := ⟨Try.f49, Try.func49, by kernel_rfl, by kernel_rfl⟩
theorem into50 : Into Try.prog 50 := ⟨Try.f50, Try.func50, by kernel_rfl, by kernel_rfl⟩
theorem into51 : Into Try.prog 51 := ⟨Try.f51, Try.func51, by kernel_rfl, by kernel_rfl⟩
theorem into52 : Into Try.prog 52 := ⟨Try.f52, Try.func52, by kernel_rfl, by kernel_rfl⟩
theorem into53 : Into Try.prog 53 := ⟨Try.f53, Try.func53, by kernel_rfl, by kernel_rfl⟩
theorem into54 : Into Try.prog 54 := ⟨Try.f54, Try.func54, by kernel_rfl, by kernel_rfl⟩
theorem into55 : Into Try.prog 55 := ⟨Try.f55, Try.func55, by kernel_rfl, by kernel_rfl⟩
theorem into56 : Into Try.prog 56 := ⟨Try.f56, Try.func56, by kernel_rfl, by kernel_rfl⟩
theorem into57 : Into Try.prog 57 := ⟨Try.f57, Try.func57, by kernel_rfl, by kernel_rfl⟩
theorem into58 : Into Try.prog 58 := ⟨Try.f58, Try.func58, by kernel_rfl, by kernel_rfl⟩
theorem into59 : Into Try.prog 59 := ⟨Try.f59, Try.func59, by kernel_rfl, by kernel_rfl⟩
theorem into60 : Into Try.prog 60 := ⟨Try.f60, Try.func60, by kernel_rfl, by kernel_rfl⟩
theorem into61 : Into Try.prog 61 := ⟨Try.f61, Try.func61, by kernel_rfl, by kernel_rfl⟩
theorem into62 : Into Try.prog 62 := ⟨Try.f62, Try.func62, by kernel_rfl, by kernel_rfl⟩
theorem into63 : Into Try.prog 63 := ⟨Try.f63, Try.func63, by kernel_rfl, by kernel_rfl⟩
theorem into64 : Into Try.prog 64 := ⟨Try.f64, Try.func64, by kernel_rfl, by kernel_rfl⟩
theorem into65 : Into Try.prog 65 := ⟨Try.f65, Try.func65, by kernel_rfl, by kernel_rfl⟩
theorem into66 : Into Try.prog 66 := ⟨Try.f66, Try.func66, by kernel_rfl, by kernel_rfl⟩
theorem into67 : Into Try.prog 67 := ⟨Try.f67, Try.func67, by kernel_rfl, by kernel_rfl⟩
theorem into68 : Into Try.prog 68 := ⟨Try.f68, Try.func68, by kernel_rfl, by kernel_rfl⟩
theorem into69 : Into Try.prog 69 := ⟨Try.f69, Try.func69, by kernel_rfl, by kernel_rfl⟩
theorem into70 : Into Try.prog 70 := ⟨Try.f70, Try.func70, by kernel_rfl, by kernel_rfl⟩
theorem into71 : Into Try.prog 71 := ⟨Try.f71, Try.func71, by kernel_rfl, by kernel_rfl⟩
theorem into72 : Into Try.prog 72 := ⟨Try.f72, Try.func72, by kernel_rfl, by kernel_rfl⟩
theorem into73 : Into Try.prog 73 := ⟨Try.f73, Try.func73, by kernel_rfl, by kernel_rfl⟩
theorem into74 : Into Try.prog 74 := ⟨Try.f74, Try.func74, by kernel_rfl, by kernel_rfl⟩
theorem into75 : Into Try.prog 75 := ⟨Try.f75, Try.func75, by kernel_rfl, by kernel_rfl⟩
theorem into76 : Into Try.prog 76 := ⟨Try.f76, Try.func76, by kernel_rfl, by kernel_rfl⟩
theorem into77 : Into Try.prog 77 := ⟨Try.f77, Try.func77, by kernel_rfl, by kernel_rfl⟩
theorem into78 : Into Try.prog 78 := ⟨Try.f78, Try.func78, by kernel_rfl, by kernel_rfl⟩
theorem into79 : Into Try.prog 79 := ⟨Try.f79, Try.func79, by kernel_rfl, by kernel_rfl⟩
theorem into80 : Into Try.prog 80 := ⟨Try.f80, Try.func80, by kernel_rfl, by kernel_rfl⟩
theorem into81 : Into Try.prog 81 := ⟨Try.f81, Try.func81, by kernel_rfl, by kernel_rfl⟩
theorem into82 : Into Try.prog 82 := ⟨Try.f82, Try.func82, by kernel_rfl, by kernel_rfl⟩
theorem into83 : Into Try.prog 83 := ⟨Try.f83, Try.func83, by kernel_rfl, by kernel_rfl⟩
theorem into84 : Into Try.prog 84 := ⟨Try.f84, Try.func84, by kernel_rfl, by kernel_rfl⟩
theorem into85 : Into Try.prog 85 := ⟨Try.f85, Try.func85, by kernel_rfl, by kernel_rfl⟩
theorem into86 : Into Try.prog 86 := ⟨Try.f86, Try.func86, by kernel_rfl, by kernel_rfl⟩
theorem into87 : Into Try.prog 87 := ⟨Try.f87, Try.func87, by kernel_rfl, by kernel_rfl⟩
theorem into88 : Into Try.prog 88 := ⟨Try.f88, Try.func88, by kernel_rfl, by kernel_rfl⟩
theorem into89 : Into Try.prog 89 := ⟨Try.f89, Try.func89, by kernel_rfl, by kernel_rfl⟩
theorem into90 : Into Try.prog 90 := ⟨Try.f90, Try.func90, by kernel_rfl, by kernel_rfl⟩
theorem into91 : Into Try.prog 91 := ⟨Try.f91, Try.func91, by kernel_rfl, by kernel_rfl⟩
theorem into92 : Into Try.prog 92 := ⟨Try.f92, Try.func92, by kernel_rfl, by kernel_rfl⟩
theorem into93 : Into Try.prog 93 := ⟨Try.f93, Try.func93, by kernel_rfl, by kernel_rfl⟩
theorem into94 : Into Try.prog 94 := ⟨Try.f94, Try.func94, by kernel_rfl, by kernel_rfl⟩
theorem into95 : Into Try.prog 95 := ⟨Try.f95, Try.func95, by kernel_rfl, by kernel_rfl⟩
theorem into96 : Into Try.prog 96 := ⟨Try.f96, Try.func96, by kernel_rfl, by kernel_rfl⟩
theorem into97 : Into Try.prog 97 := ⟨Try.f97, Try.func97, by kernel_rfl, by kernel_rfl⟩
theorem into98 : Into Try.prog 98 := ⟨Try.f98, Try.func98, by kernel_rfl, by kernel_rfl⟩
theorem into99 : Into Try.prog 99 := ⟨Try.f99, Try.func99, by kernel_rfl, by kernel_rfl⟩
theorem into100 : Into Try.prog 100 := ⟨Try.f100, Try.func100, by kernel_rfl, by kernel_rfl⟩
theorem into101 : Into Try.prog 101 := ⟨Try.f101, Try.func101, by kernel_rfl, by kernel_rfl⟩
theorem into102 : Into Try.prog 102 := ⟨Try.f102, Try.func102, by kernel_rfl, by kernel_rfl⟩
theorem into103 : Into Try.prog 103 := ⟨Try.f103, Try.func103, by kernel_rfl, by kernel_rfl⟩
theorem into104 : Into Try.prog 104 := ⟨Try.f104, Try.func104, by kernel_rfl, by kernel_rfl⟩
theorem into105 : Into Try.prog 105 := ⟨Try.f105, Try.func105, by kernel_rfl, by kernel_rfl⟩
theorem into106 : Into Try.prog 106 := ⟨Try.f106, Try.func106, by kernel_rfl, by kernel_rfl⟩
theorem into107 : Into Try.prog 107 := ⟨Try.f107, Try.func107, by kernel_rfl, by kernel_rfl⟩
theorem into108 : Into Try.prog 108 := ⟨Try.f108, Try.func108, by kernel_rfl, by kernel_rfl⟩
theorem into109 : Into Try.prog 109 := ⟨Try.f109, Try.func109, by kernel_rfl, by kernel_rfl⟩
theorem into110 : Into Try.prog 110 := ⟨Try.f110, Try.func110, by kernel_rfl, by kernel_rfl⟩
theorem into111 : Into Try.prog 111 := ⟨Try.f111, Try.func111, by kernel_rfl, by kernel_rfl⟩
theorem into112 : Into Try.prog 112 := ⟨Try.f112, Try.func112, by kernel_rfl, by kernel_rfl⟩
theorem into113 : Into Try.prog 113 := ⟨Try.f113, Try.func113, by kernel_rfl, by kernel_rfl⟩
theorem into114 : Into Try.prog 114 := ⟨Try.f114, Try.func114, by kernel_rfl, by kernel_rfl⟩
theorem into115 : Into Try.prog 115 := ⟨Try.f115, Try.func115, by kernel_rfl, by kernel_rfl⟩
theorem into116 : Into Try.prog 116 := ⟨Try.f116, Try.func116, by kernel_rfl, by kernel_rfl⟩
theorem place7 : ∀ w, ((#[⟨"x", 2, 0, false, "", "runtime", 0⟩, ⟨"y", 3, 1, false, "", "runtime", 8⟩, ⟨"signed", 4, 2, false, "", "runtime", 16⟩, ⟨"code", 6, 3, false, "", "runtime", 17⟩].mapM fun (f : Field) => do pure (f.offset, ← sizeOf f.type) : Sem (Array (Nat × Nat)))).run Try.prog w = .ok #[(0, 1), (1, 1), (2, 1), (3, 1)] w := fun w => by kernel_rfl
theorem place8 : ∀ w, ((#[⟨"x", 2, 0, false, "", "runtime", 0⟩, ⟨"y", 3, 1, false, "", "runtime", 8⟩, ⟨"signed", 4, 2, false, "", "runtime", 16⟩, ⟨"code", 6, 3, false, "", "runtime", 17⟩].mapM fun (f : Field) => do pure (f.offset, ← sizeOf f.type) : Sem (Array (Nat × Nat)))).run Try.prog w = .ok #[(0, 1), (1, 1), (2, 1), (3, 1)] w := fun w => by kernel_rfl
theorem place13 : ∀ w, ((#[⟨"msg", 9, 0, false, "", "runtime", 0⟩, ⟨"addr", 12, 1, false, "", "runtime", 16⟩].mapM fun (f : Field) => do pure (f.offset, ← sizeOf f.type) : Sem (Array (Nat × Nat)))).run Try.prog w = .ok #[(0, 1), (1, 1)] w := fun w => by kernel_rfl
theorem place14 : ∀ w, ((#[⟨"msg", 9, 0, false, "", "runtime", 0⟩, ⟨"addr", 12, 1, false, "", "runtime", 16⟩].mapM fun (f : Field) => do pure (f.offset, ← sizeOf f.type) : Sem (Array (Nat × Nat)))).run Try.prog w = .ok #[(0, 1), (1, 1)] w := fun w => by kernel_rfl
theorem place18 : ∀ w, ((#[⟨"typ", 17, 0, false, "", "internal/runtime/maps", 0⟩].mapM fun (f : Field) => do pure (f.offset, ← sizeOf f.type) : Sem (Array (Nat × Nat)))).run Try.prog w = .ok #[(0, 1)] w := fun w => by kernel_rfl
theorem place19 : ∀ w, ((#[⟨"typ", 17, 0, false, "", "internal/runtime/maps", 0⟩].mapM fun (f : Field) => do pure (f.offset, ← sizeOf f.type) : Sem (Array (Nat × Nat)))).run Try.prog w = .ok #[(0, 1)] w := fun w => by kernel_rfl
theorem place26 : ∀ w, ((#[⟨"Ins", 22, 0, false, "", "", 0⟩, ⟨"Regs", 23, 1, false, "", "", 24⟩, ⟨"Gates", 24, 2, false, "", "", 48⟩, ⟨"Outs", 25, 3, false, "", "", 72⟩].mapM fun (f : Field) => do pure (f.offset, ← sizeOf f.type) : Sem (Array (Nat × Nat)))).run Try.prog w = .ok #[(0, 1), (1, 1), (2, 1), (3, 1)] w := fun w => by kernel_rfl
theorem place27 : ∀ w, ((#[⟨"Ins", 22, 0, false, "", "", 0⟩, ⟨"Regs", 23, 1, false, "", "", 24⟩, ⟨"Gates", 24, 2, false, "", "", 48⟩, ⟨"Outs", 25, 3, false, "", "", 72⟩].mapM fun (f : Field) => do pure (f.offset, ← sizeOf f.type) : Sem (Array (Nat × Nat)))).run Try.prog w = .ok #[(0, 1), (1, 1), (2, 1), (3, 1)] w := fun w => by kernel_rfl
theorem place61 : ∀ w, ((#[⟨"Name", 9, 0, false, "", "", 0⟩, ⟨"Init", 41, 1, false, "", "", 16⟩, ⟨"Next", 3, 2, false, "", "", 24⟩].mapM fun (f : Field) => do pure (f.offset, ← sizeOf f.type) : Sem (Array (Nat × Nat)))).run Try.prog w = .ok #[(0, 1), (1, 1), (2, 1)] w := fun w => by kernel_rfl
theorem place62 : ∀ w, ((#[⟨"Name", 9, 0, false, "", "", 0⟩, ⟨"Init", 41, 1, false, "", "", 16⟩, ⟨"Next", 3, 2, false, "", "", 24⟩].mapM fun (f : Field) => do pure (f.offset, ← sizeOf f.type) : Sem (Array (Nat × Nat)))).run Try.prog w = .ok #[(0, 1), (1, 1), (2, 1)] w := fun w => by kernel_rfl
theorem place82 : ∀ w, ((#[⟨"Name", 9, 0, false, "", "", 0⟩, ⟨"Lit", 3, 1, false, "", "", 16⟩].mapM fun (f : Field) => do pure (f.offset, ← sizeOf f.type) : Sem (Array (Nat × Nat)))).run Try.prog w = .ok #[(0, 1), (1, 1)] w := fun w => by kernel_rfl
theorem place83 : ∀ w, ((#[⟨"Name", 9, 0, false, "", "", 0⟩, ⟨"Lit", 3, 1, false, "", "", 16⟩].mapM fun (f : Field) => do pure (f.offset, ← sizeOf f.type) : Sem (Array (Nat × Nat)))).run Try.prog w = .ok #[(0, 1), (1, 1)] w := fun w => by kernel_rfl
theorem place97 : ∀ w, ((#[⟨"from", 3, 0, false, "", "netwright/cycle", 0⟩, ⟨"ins", 3, 1, false, "", "netwright/cycle", 8⟩].mapM fun (f : Field) => do pure (f.offset, ← sizeOf f.type) : Sem (Array (Nat × Nat)))).run Try.prog w = .ok #[(0, 1), (1, 1)] w := fun w => by kernel_rfl
theorem place98 : ∀ w, ((#[⟨"from", 3, 0, false, "", "netwright/cycle", 0⟩, ⟨"ins", 3, 1, false, "", "netwright/cycle", 8⟩].mapM fun (f : Field) => do pure (f.offset, ← sizeOf f.type) : Sem (Array (Nat × Nat)))).run Try.prog w = .ok #[(0, 1), (1, 1)] w := fun w => by kernel_rfl
theorem place157 : ∀ w, ((#[⟨"_interface", 17, 0, false, "", "runtime", 0⟩, ⟨"concrete", 17, 1, false, "", "runtime", 8⟩, ⟨"asserted", 17, 2, false, "", "runtime", 16⟩, ⟨"missingMethod", 9, 3, false, "", "runtime", 24⟩].mapM fun (f : Field) => do pure (f.offset, ← sizeOf f.type) : Sem (Array (Nat × Nat)))).run Try.prog w = .ok #[(0, 1), (1, 1), (2, 1), (3, 1)] w := fun w => by kernel_rfl
theorem place158 : ∀ w, ((#[⟨"_interface", 17, 0, false, "", "runtime", 0⟩, ⟨"concrete", 17, 1, false, "", "runtime", 8⟩, ⟨"asserted", 17, 2, false, "", "runtime", 16⟩, ⟨"missingMethod", 9, 3, false, "", "runtime", 24⟩].mapM fun (f : Field) => do pure (f.offset, ← sizeOf f.type) : Sem (Array (Nat × Nat)))).run Try.prog w = .ok #[(0, 1), (1, 1), (2, 1), (3, 1)] w := fun w => by kernel_rfl
theorem place160 : ∀ w, ((#[⟨"_", 159, 0, false, "", "runtime", 0⟩].mapM fun (f : Field) => do pure (f.offset, ← sizeOf f.type) : Sem (Array (Nat × Nat)))).run Try.prog w = .ok #[(0, 0)] w := fun w => by kernel_rfl
theorem place161 : ∀ w, ((#[⟨"_", 159, 0, false, "", "runtime", 0⟩].mapM fun (f : Field) => do pure (f.offset, ← sizeOf f.type) : Sem (Array (Nat × Nat)))).run Try.prog w = .ok #[(0, 0)] w := fun w => by kernel_rfl
theorem place169 : ∀ w, ((#[⟨"Size_", 12, 0, false, "", "", 0⟩, ⟨"PtrBytes", 12, 1, false, "", "", 8⟩, ⟨"Hash", 138, 2, false, "", "", 16⟩, ⟨"TFlag", 163, 3, false, "", "", 20⟩, ⟨"Align_", 5, 4, false, "", "", 21⟩, ⟨"FieldAlign_", 5, 5, false, "", "", 22⟩, ⟨"Kind_", 164, 6, false, "", "", 23⟩, ⟨"Equal", 165, 7, false, "", "", 24⟩, ⟨"GCData", 166, 8, false, "", "", 32⟩, ⟨"Str", 167, 9, false, "", "", 40⟩, ⟨"PtrToThis", 168, 10, false, "", "", 44⟩].mapM fun (f : Field) => do pure (f.offset, ← sizeOf f.type) : Sem (Array (Nat × Nat)))).run Try.prog w = .ok #[(0, 1), (1, 1), (2, 1), (3, 1), (4, 1), (5, 1), (6, 1), (7, 1), (8, 1), (9, 1), (10, 1)] w := fun w => by kernel_rfl
theorem place170 : ∀ w, ((#[⟨"Size_", 12, 0, false, "", "", 0⟩, ⟨"PtrBytes", 12, 1, false, "", "", 8⟩, ⟨"Hash", 138, 2, false, "", "", 16⟩, ⟨"TFlag", 163, 3, false, "", "", 20⟩, ⟨"Align_", 5, 4, false, "", "", 21⟩, ⟨"FieldAlign_", 5, 5, false, "", "", 22⟩, ⟨"Kind_", 164, 6, false, "", "", 23⟩, ⟨"Equal", 165, 7, false, "", "", 24⟩, ⟨"GCData", 166, 8, false, "", "", 32⟩, ⟨"Str", 167, 9, false, "", "", 40⟩, ⟨"PtrToThis", 168, 10, false, "", "", 44⟩].mapM fun (f : Field) => do pure (f.offset, ← sizeOf f.type) : Sem (Array (Nat × Nat)))).run Try.prog w = .ok #[(0, 1), (1, 1), (2, 1), (3, 1), (4, 1), (5, 1), (6, 1), (7, 1), (8, 1), (9, 1), (10, 1)] w := fun w => by kernel_rfl
end Go.Proofs.Ytnnklpmgncbgnaa
