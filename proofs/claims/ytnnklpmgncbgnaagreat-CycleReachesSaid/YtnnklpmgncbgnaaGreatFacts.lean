/- Facts of the program: types and functions, by the kernel (printed by facts.py). -/
import Derived.Test.YtnnklpmgncbgnaaGreatEngO
import Derived.Test.YtnnklpmgncbgnaaGreatChecked
import Derived.KernelRfl
namespace Go.Proofs.YtnnklpmgncbgnaaGreat
open Go
/-- Conditions in their plain form. -/
theorem nrm : (∀ (p : Prop) [Decidable p], (decide p = true) = p) ∧ (∀ (p : Prop) [Decidable p], (decide p = false) = ¬p) ∧ (∀ b : Bool, ((!b) = true) = (b = false)) ∧ (∀ b : Bool, ((!b) = false) = (b = true)) ∧ (∀ {α : Type} [BEq α] [LawfulBEq α] {a b : α}, ((a == b) = true) ↔ a = b) ∧ (∀ {α : Type} [BEq α] [LawfulBEq α] {a b : α}, ((a != b) = true) ↔ a ≠ b) ∧ (∀ {α : Type} [BEq α] [LawfulBEq α] {a b : α}, ((a == b) = false) ↔ a ≠ b) ∧ (∀ {α : Type} [BEq α] [LawfulBEq α] {a b : α}, ((a != b) = false) ↔ a = b) ∧ (∀ a b : Bool, ((a || b) = true) = (a = true ∨ b = true)) ∧ (∀ a b : Bool, ((a && b) = true) = (a = true ∧ b = true)) ∧ (∀ a b : Bool, ((a || b) = false) = (a = false ∧ b = false)) ∧ (∀ {α : Type} [LT α] {a b : α}, (a > b) ↔ b < a) ∧ (∀ {α : Type} [LE α] {a b : α}, (a ≥ b) ↔ b ≤ a) := ⟨fun _ _ => decide_eq_true_eq, fun _ _ => propext decide_eq_false_iff_not, fun b => by cases b <;> simp, fun b => by cases b <;> simp, beq_iff_eq, bne_iff_ne, beq_eq_false_iff_ne, bne_eq_false_iff_eq, Bool.or_eq_true, Bool.and_eq_true, fun a b => by cases a <;> cases b <;> simp, gt_iff_lt, ge_iff_le⟩
theorem info0 : Tryz.prog.info? 0 = some Tryz.t0 := by kernel_rfl
theorem info1 : Tryz.prog.info? 1 = some Tryz.t1 := by kernel_rfl
theorem info2 : Tryz.prog.info? 2 = some Tryz.t2 := by kernel_rfl
theorem info3 : Tryz.prog.info? 3 = some Tryz.t3 := by kernel_rfl
theorem info4 : Tryz.prog.info? 4 = some Tryz.t4 := by kernel_rfl
theorem info5 : Tryz.prog.info? 5 = some Tryz.t5 := by kernel_rfl
theorem info6 : Tryz.prog.info? 6 = some Tryz.t6 := by kernel_rfl
theorem info7 : Tryz.prog.info? 7 = some Tryz.t7 := by kernel_rfl
theorem info8 : Tryz.prog.info? 8 = some Tryz.t8 := by kernel_rfl
theorem info9 : Tryz.prog.info? 9 = some Tryz.t9 := by kernel_rfl
theorem info10 : Tryz.prog.info? 10 = some Tryz.t10 := by kernel_rfl
theorem info11 : Tryz.prog.info? 11 = some Tryz.t11 := by kernel_rfl
theorem info12 : Tryz.prog.info? 12 = some Tryz.t12 := by kernel_rfl
theorem info13 : Tryz.prog.info? 13 = some Tryz.t13 := by kernel_rfl
theorem info14 : Tryz.prog.info? 14 = some Tryz.t14 := by kernel_rfl
theorem info15 : Tryz.prog.info? 15 = some Tryz.t15 := by kernel_rfl
theorem info16 : Tryz.prog.info? 16 = some Tryz.t16 := by kernel_rfl
theorem info17 : Tryz.prog.info? 17 = some Tryz.t17 := by kernel_rfl
theorem info18 : Tryz.prog.info? 18 = some Tryz.t18 := by kernel_rfl
theorem info19 : Tryz.prog.info? 19 = some Tryz.t19 := by kernel_rfl
theorem info20 : Tryz.prog.info? 20 = some Tryz.t20 := by kernel_rfl
theorem info21 : Tryz.prog.info? 21 = some Tryz.t21 := by kernel_rfl
theorem info22 : Tryz.prog.info? 22 = some Tryz.t22 := by kernel_rfl
theorem info23 : Tryz.prog.info? 23 = some Tryz.t23 := by kernel_rfl
theorem info24 : Tryz.prog.info? 24 = some Tryz.t24 := by kernel_rfl
theorem info25 : Tryz.prog.info? 25 = some Tryz.t25 := by kernel_rfl
theorem info26 : Tryz.prog.info? 26 = some Tryz.t26 := by kernel_rfl
theorem info27 : Tryz.prog.info? 27 = some Tryz.t27 := by kernel_rfl
theorem info28 : Tryz.prog.info? 28 = some Tryz.t28 := by kernel_rfl
theorem info29 : Tryz.prog.info? 29 = some Tryz.t29 := by kernel_rfl
theorem info30 : Tryz.prog.info? 30 = some Tryz.t30 := by kernel_rfl
theorem info31 : Tryz.prog.info? 31 = some Tryz.t31 := by kernel_rfl
theorem info32 : Tryz.prog.info? 32 = some Tryz.t32 := by kernel_rfl
theorem info33 : Tryz.prog.info? 33 = some Tryz.t33 := by kernel_rfl
theorem info34 : Tryz.prog.info? 34 = some Tryz.t34 := by kernel_rfl
theorem info35 : Tryz.prog.info? 35 = some Tryz.t35 := by kernel_rfl
theorem info36 : Tryz.prog.info? 36 = some Tryz.t36 := by kernel_rfl
theorem info37 : Tryz.prog.info? 37 = some Tryz.t37 := by kernel_rfl
theorem info38 : Tryz.prog.info? 38 = some Tryz.t38 := by kernel_rfl
theorem info39 : Tryz.prog.info? 39 = some Tryz.t39 := by kernel_rfl
theorem info40 : Tryz.prog.info? 40 = some Tryz.t40 := by kernel_rfl
theorem info41 : Tryz.prog.info? 41 = some Tryz.t41 := by kernel_rfl
theorem info42 : Tryz.prog.info? 42 = some Tryz.t42 := by kernel_rfl
theorem info43 : Tryz.prog.info? 43 = some Tryz.t43 := by kernel_rfl
theorem info44 : Tryz.prog.info? 44 = some Tryz.t44 := by kernel_rfl
theorem info45 : Tryz.prog.info? 45 = some Tryz.t45 := by kernel_rfl
theorem info46 : Tryz.prog.info? 46 = some Tryz.t46 := by kernel_rfl
theorem info47 : Tryz.prog.info? 47 = some Tryz.t47 := by kernel_rfl
theorem info48 : Tryz.prog.info? 48 = some Tryz.t48 := by kernel_rfl
theorem info49 : Tryz.prog.info? 49 = some Tryz.t49 := by kernel_rfl
theorem info50 : Tryz.prog.info? 50 = some Tryz.t50 := by kernel_rfl
theorem info51 : Tryz.prog.info? 51 = some Tryz.t51 := by kernel_rfl
theorem info52 : Tryz.prog.info? 52 = some Tryz.t52 := by kernel_rfl
theorem info53 : Tryz.prog.info? 53 = some Tryz.t53 := by kernel_rfl
theorem info54 : Tryz.prog.info? 54 = some Tryz.t54 := by kernel_rfl
theorem info55 : Tryz.prog.info? 55 = some Tryz.t55 := by kernel_rfl
theorem info56 : Tryz.prog.info? 56 = some Tryz.t56 := by kernel_rfl
theorem info57 : Tryz.prog.info? 57 = some Tryz.t57 := by kernel_rfl
theorem info58 : Tryz.prog.info? 58 = some Tryz.t58 := by kernel_rfl
theorem info59 : Tryz.prog.info? 59 = some Tryz.t59 := by kernel_rfl
theorem info60 : Tryz.prog.info? 60 = some Tryz.t60 := by kernel_rfl
theorem info61 : Tryz.prog.info? 61 = some Tryz.t61 := by kernel_rfl
theorem info62 : Tryz.prog.info? 62 = some Tryz.t62 := by kernel_rfl
theorem info63 : Tryz.prog.info? 63 = some Tryz.t63 := by kernel_rfl
theorem info64 : Tryz.prog.info? 64 = some Tryz.t64 := by kernel_rfl
theorem info65 : Tryz.prog.info? 65 = some Tryz.t65 := by kernel_rfl
theorem info66 : Tryz.prog.info? 66 = some Tryz.t66 := by kernel_rfl
theorem info67 : Tryz.prog.info? 67 = some Tryz.t67 := by kernel_rfl
theorem info68 : Tryz.prog.info? 68 = some Tryz.t68 := by kernel_rfl
theorem info69 : Tryz.prog.info? 69 = some Tryz.t69 := by kernel_rfl
theorem info70 : Tryz.prog.info? 70 = some Tryz.t70 := by kernel_rfl
theorem info71 : Tryz.prog.info? 71 = some Tryz.t71 := by kernel_rfl
theorem info72 : Tryz.prog.info? 72 = some Tryz.t72 := by kernel_rfl
theorem info73 : Tryz.prog.info? 73 = some Tryz.t73 := by kernel_rfl
theorem info74 : Tryz.prog.info? 74 = some Tryz.t74 := by kernel_rfl
theorem info75 : Tryz.prog.info? 75 = some Tryz.t75 := by kernel_rfl
theorem info76 : Tryz.prog.info? 76 = some Tryz.t76 := by kernel_rfl
theorem info77 : Tryz.prog.info? 77 = some Tryz.t77 := by kernel_rfl
theorem info78 : Tryz.prog.info? 78 = some Tryz.t78 := by kernel_rfl
theorem info79 : Tryz.prog.info? 79 = some Tryz.t79 := by kernel_rfl
theorem info80 : Tryz.prog.info? 80 = some Tryz.t80 := by kernel_rfl
theorem info81 : Tryz.prog.info? 81 = some Tryz.t81 := by kernel_rfl
theorem info82 : Tryz.prog.info? 82 = some Tryz.t82 := by kernel_rfl
theorem info83 : Tryz.prog.info? 83 = some Tryz.t83 := by kernel_rfl
theorem info84 : Tryz.prog.info? 84 = some Tryz.t84 := by kernel_rfl
theorem info85 : Tryz.prog.info? 85 = some Tryz.t85 := by kernel_rfl
theorem info86 : Tryz.prog.info? 86 = some Tryz.t86 := by kernel_rfl
theorem info87 : Tryz.prog.info? 87 = some Tryz.t87 := by kernel_rfl
theorem info88 : Tryz.prog.info? 88 = some Tryz.t88 := by kernel_rfl
theorem info89 : Tryz.prog.info? 89 = some Tryz.t89 := by kernel_rfl
theorem info90 : Tryz.prog.info? 90 = some Tryz.t90 := by kernel_rfl
theorem info91 : Tryz.prog.info? 91 = some Tryz.t91 := by kernel_rfl
theorem info92 : Tryz.prog.info? 92 = some Tryz.t92 := by kernel_rfl
theorem info93 : Tryz.prog.info? 93 = some Tryz.t93 := by kernel_rfl
theorem info94 : Tryz.prog.info? 94 = some Tryz.t94 := by kernel_rfl
theorem info95 : Tryz.prog.info? 95 = some Tryz.t95 := by kernel_rfl
theorem info96 : Tryz.prog.info? 96 = some Tryz.t96 := by kernel_rfl
theorem info97 : Tryz.prog.info? 97 = some Tryz.t97 := by kernel_rfl
theorem info98 : Tryz.prog.info? 98 = some Tryz.t98 := by kernel_rfl
theorem info99 : Tryz.prog.info? 99 = some Tryz.t99 := by kernel_rfl
theorem info100 : Tryz.prog.info? 100 = some Tryz.t100 := by kernel_rfl
theorem info101 : Tryz.prog.info? 101 = some Tryz.t101 := by kernel_rfl
theorem info102 : Tryz.prog.info? 102 = some Tryz.t102 := by kernel_rfl
theorem info103 : Tryz.prog.info? 103 = some Tryz.t103 := by kernel_rfl
theorem info104 : Tryz.prog.info? 104 = some Tryz.t104 := by kernel_rfl
theorem info105 : Tryz.prog.info? 105 = some Tryz.t105 := by kernel_rfl
theorem info106 : Tryz.prog.info? 106 = some Tryz.t106 := by kernel_rfl
theorem info107 : Tryz.prog.info? 107 = some Tryz.t107 := by kernel_rfl
theorem info108 : Tryz.prog.info? 108 = some Tryz.t108 := by kernel_rfl
theorem info109 : Tryz.prog.info? 109 = some Tryz.t109 := by kernel_rfl
theorem info110 : Tryz.prog.info? 110 = some Tryz.t110 := by kernel_rfl
theorem info111 : Tryz.prog.info? 111 = some Tryz.t111 := by kernel_rfl
theorem info112 : Tryz.prog.info? 112 = some Tryz.t112 := by kernel_rfl
theorem info113 : Tryz.prog.info? 113 = some Tryz.t113 := by kernel_rfl
theorem info114 : Tryz.prog.info? 114 = some Tryz.t114 := by kernel_rfl
theorem info115 : Tryz.prog.info? 115 = some Tryz.t115 := by kernel_rfl
theorem info116 : Tryz.prog.info? 116 = some Tryz.t116 := by kernel_rfl
theorem info117 : Tryz.prog.info? 117 = some Tryz.t117 := by kernel_rfl
theorem info118 : Tryz.prog.info? 118 = some Tryz.t118 := by kernel_rfl
theorem info119 : Tryz.prog.info? 119 = some Tryz.t119 := by kernel_rfl
theorem info120 : Tryz.prog.info? 120 = some Tryz.t120 := by kernel_rfl
theorem info121 : Tryz.prog.info? 121 = some Tryz.t121 := by kernel_rfl
theorem info122 : Tryz.prog.info? 122 = some Tryz.t122 := by kernel_rfl
theorem info123 : Tryz.prog.info? 123 = some Tryz.t123 := by kernel_rfl
theorem info124 : Tryz.prog.info? 124 = some Tryz.t124 := by kernel_rfl
theorem info125 : Tryz.prog.info? 125 = some Tryz.t125 := by kernel_rfl
theorem info126 : Tryz.prog.info? 126 = some Tryz.t126 := by kernel_rfl
theorem info127 : Tryz.prog.info? 127 = some Tryz.t127 := by kernel_rfl
theorem info128 : Tryz.prog.info? 128 = some Tryz.t128 := by kernel_rfl
theorem info129 : Tryz.prog.info? 129 = some Tryz.t129 := by kernel_rfl
theorem info130 : Tryz.prog.info? 130 = some Tryz.t130 := by kernel_rfl
theorem info131 : Tryz.prog.info? 131 = some Tryz.t131 := by kernel_rfl
theorem info132 : Tryz.prog.info? 132 = some Tryz.t132 := by kernel_rfl
theorem info133 : Tryz.prog.info? 133 = some Tryz.t133 := by kernel_rfl
theorem info134 : Tryz.prog.info? 134 = some Tryz.t134 := by kernel_rfl
theorem info135 : Tryz.prog.info? 135 = some Tryz.t135 := by kernel_rfl
theorem info136 : Tryz.prog.info? 136 = some Tryz.t136 := by kernel_rfl
theorem info137 : Tryz.prog.info? 137 = some Tryz.t137 := by kernel_rfl
theorem info138 : Tryz.prog.info? 138 = some Tryz.t138 := by kernel_rfl
theorem info139 : Tryz.prog.info? 139 = some Tryz.t139 := by kernel_rfl
theorem info140 : Tryz.prog.info? 140 = some Tryz.t140 := by kernel_rfl
theorem info141 : Tryz.prog.info? 141 = some Tryz.t141 := by kernel_rfl
theorem info142 : Tryz.prog.info? 142 = some Tryz.t142 := by kernel_rfl
theorem info143 : Tryz.prog.info? 143 = some Tryz.t143 := by kernel_rfl
theorem info144 : Tryz.prog.info? 144 = some Tryz.t144 := by kernel_rfl
theorem info145 : Tryz.prog.info? 145 = some Tryz.t145 := by kernel_rfl
theorem info146 : Tryz.prog.info? 146 = some Tryz.t146 := by kernel_rfl
theorem info147 : Tryz.prog.info? 147 = some Tryz.t147 := by kernel_rfl
theorem info148 : Tryz.prog.info? 148 = some Tryz.t148 := by kernel_rfl
theorem info149 : Tryz.prog.info? 149 = some Tryz.t149 := by kernel_rfl
theorem info150 : Tryz.prog.info? 150 = some Tryz.t150 := by kernel_rfl
theorem info151 : Tryz.prog.info? 151 = some Tryz.t151 := by kernel_rfl
theorem info152 : Tryz.prog.info? 152 = some Tryz.t152 := by kernel_rfl
theorem info153 : Tryz.prog.info? 153 = some Tryz.t153 := by kernel_rfl
theorem info154 : Tryz.prog.info? 154 = some Tryz.t154 := by kernel_rfl
theorem info155 : Tryz.prog.info? 155 = some Tryz.t155 := by kernel_rfl
theorem info156 : Tryz.prog.info? 156 = some Tryz.t156 := by kernel_rfl
theorem info157 : Tryz.prog.info? 157 = some Tryz.t157 := by kernel_rfl
theorem info158 : Tryz.prog.info? 158 = some Tryz.t158 := by kernel_rfl
theorem info159 : Tryz.prog.info? 159 = some Tryz.t159 := by kernel_rfl
theorem info160 : Tryz.prog.info? 160 = some Tryz.t160 := by kernel_rfl
theorem info161 : Tryz.prog.info? 161 = some Tryz.t161 := by kernel_rfl
theorem info162 : Tryz.prog.info? 162 = some Tryz.t162 := by kernel_rfl
theorem info163 : Tryz.prog.info? 163 = some Tryz.t163 := by kernel_rfl
theorem into2 : Into Tryz.prog 2 := ⟨Tryz.f2, Tryz.func2, by kernel_rfl, by kernel_rfl⟩
theorem into3 : Into Tryz.prog 3 := ⟨Tryz.f3, Tryz.func3, by kernel_rfl, by kernel_rfl⟩
theorem into4 : Into Tryz.prog 4 := ⟨Tryz.f4, Tryz.func4, by kernel_rfl, by kernel_rfl⟩
theorem into5 : Into Tryz.prog 5 := ⟨Tryz.f5, Tryz.func5, by kernel_rfl, by kernel_rfl⟩
theorem into6 : Into Tryz.prog 6 := ⟨Tryz.f6, Tryz.func6, by kernel_rfl, by kernel_rfl⟩
theorem into7 : Into Tryz.prog 7 := ⟨Tryz.f7, Tryz.func7, by kernel_rfl, by kernel_rfl⟩
theorem into8 : Into Tryz.prog 8 := ⟨Tryz.f8, Tryz.func8, by kernel_rfl, by kernel_rfl⟩
theorem into9 : Into Tryz.prog 9 := ⟨Tryz.f9, Tryz.func9, by kernel_rfl, by kernel_rfl⟩
theorem into10 : Into Tryz.prog 10 := ⟨Tryz.f10, Tryz.func10, by kernel_rfl, by kernel_rfl⟩
theorem into11 : Into Tryz.prog 11 := ⟨Tryz.f11, Tryz.func11, by kernel_rfl, by kernel_rfl⟩
theorem into12 : Into Tryz.prog 12 := ⟨Tryz.f12, Tryz.func12, by kernel_rfl, by kernel_rfl⟩
theorem into13 : Into Tryz.prog 13 := ⟨Tryz.f13, Tryz.func13, by kernel_rfl, by kernel_rfl⟩
theorem into14 : Into Tryz.prog 14 := ⟨Tryz.f14, Tryz.func14, by kernel_rfl, by kernel_rfl⟩
theorem into15 : Into Tryz.prog 15 := ⟨Tryz.f15, Tryz.func15, by kernel_rfl, by kernel_rfl⟩
theorem into16 : Into Tryz.prog 16 := ⟨Tryz.f16, Tryz.func16, by kernel_rfl, by kernel_rfl⟩
theorem into17 : Into Tryz.prog 17 := ⟨Tryz.f17, Tryz.func17, by kernel_rfl, by kernel_rfl⟩
theorem into18 : Into Tryz.prog 18 := ⟨Tryz.f18, Tryz.func18, by kernel_rfl, by kernel_rfl⟩
theorem into19 : Into Tryz.prog 19 := ⟨Tryz.f19, Tryz.func19, by kernel_rfl, by kernel_rfl⟩
theorem into20 : Into Tryz.prog 20 := ⟨Tryz.f20, Tryz.func20, by kernel_rfl, by kernel_rfl⟩
theorem into21 : Into Tryz.prog 21 := ⟨Tryz.f21, Tryz.func21, by kernel_rfl, by kernel_rfl⟩
theorem into22 : Into Tryz.prog 22 := ⟨Tryz.f22, Tryz.func22, by kernel_rfl, by kernel_rfl⟩
theorem into23 : Into Tryz.prog 23 := ⟨Tryz.f23, Tryz.func23, by kernel_rfl, by kernel_rfl⟩
theorem into24 : Into Tryz.prog 24 := ⟨Tryz.f24, Tryz.func24, by kernel_rfl, by kernel_rfl⟩
theorem into25 : Into Tryz.prog 25 := ⟨Tryz.f25, Tryz.func25, by kernel_rfl, by kernel_rfl⟩
theorem into26 : Into Tryz.prog 26 := ⟨Tryz.f26, Tryz.func26, by kernel_rfl, by kernel_rfl⟩
theorem into27 : Into Tryz.prog 27 := ⟨Tryz.f27, Tryz.func27, by kernel_rfl, by kernel_rfl⟩
theorem into28 : Into Tryz.prog 28 := ⟨Tryz.f28, Tryz.func28, by kernel_rfl, by kernel_rfl⟩
theorem into29 : Into Tryz.prog 29 := ⟨Tryz.f29, Tryz.func29, by kernel_rfl, by kernel_rfl⟩
theorem into30 : Into Tryz.prog 30 := ⟨Tryz.f30, Tryz.func30, by kernel_rfl, by kernel_rfl⟩
theorem into31 : Into Tryz.prog 31 := ⟨Tryz.f31, Tryz.func31, by kernel_rfl, by kernel_rfl⟩
theorem into32 : Into Tryz.prog 32 := ⟨Tryz.f32, Tryz.func32, by kernel_rfl, by kernel_rfl⟩
theorem into33 : Into Tryz.prog 33 := ⟨Tryz.f33, Tryz.func33, by kernel_rfl, by kernel_rfl⟩
theorem into34 : Into Tryz.prog 34 := ⟨Tryz.f34, Tryz.func34, by kernel_rfl, by kernel_rfl⟩
theorem into35 : Into Tryz.prog 35 := ⟨Tryz.f35, Tryz.func35, by kernel_rfl, by kernel_rfl⟩
theorem into36 : Into Tryz.prog 36 := ⟨Tryz.f36, Tryz.func36, by kernel_rfl, by kernel_rfl⟩
theorem into37 : Into Tryz.prog 37 := ⟨Tryz.f37, Tryz.func37, by kernel_rfl, by kernel_rfl⟩
theorem into38 : Into Tryz.prog 38 := ⟨Tryz.f38, Tryz.func38, by kernel_rfl, by kernel_rfl⟩
theorem into39 : Into Tryz.prog 39 := ⟨Tryz.f39, Tryz.func39, by kernel_rfl, by kernel_rfl⟩
theorem into40 : Into Tryz.prog 40 := ⟨Tryz.f40, Tryz.func40, by kernel_rfl, by kernel_rfl⟩
theorem into41 : Into Tryz.prog 41 := ⟨Tryz.f41, Tryz.func41, by kernel_rfl, by kernel_rfl⟩
theorem into42 : Into Tryz.prog 42 := ⟨Tryz.f42, Tryz.func42, by kernel_rfl, by kernel_rfl⟩
theorem into43 : Into Tryz.prog 43 := ⟨Tryz.f43, Tryz.func43, by kernel_rfl, by kernel_rfl⟩
theorem into44 : Into Tryz.prog 44 := ⟨Tryz.f44, Tryz.func44, by kernel_rfl, by kernel_rfl⟩
theorem into45 : Into Tryz.prog 45 := ⟨Tryz.f45, Tryz.func45, by kernel_rfl, by kernel_rfl⟩
theorem into46 : Into Tryz.prog 46 := ⟨Tryz.f46, Tryz.func46, by kernel_rfl, by kernel_rfl⟩
theorem into47 : Into Tryz.prog 47 := ⟨Tryz.f47, Tryz.func47, by kernel_rfl, by kernel_rfl⟩
theorem into48 : Into Tryz.prog 48 := ⟨Tryz.f48, Tryz.func48, by kernel_rfl, by kernel_rfl⟩
theorem into49 : Into Tryz.prog 49 := ⟨Tryz.f49, Tryz.func49, by kernel_rfl, by kernel_rfl⟩
theorem into50 : Into Tryz.prog 50 := ⟨Tryz.f50, Tryz.func50, by kernel_rfl, by kernel_rfl⟩
theorem into51 : Into Tryz.prog 51 := ⟨Tryz.f51, Tryz.func51, by kernel_rfl, by kernel_rfl⟩
theorem into52 : Into Tryz.prog 52 := ⟨Tryz.f52, Tryz.func52, by kernel_rfl, by kernel_rfl⟩
theorem into53 : Into Tryz.prog 53 := ⟨Tryz.f53, Tryz.func53, by kernel_rfl, by kernel_rfl⟩
theorem into54 : Into Tryz.prog 54 := ⟨Tryz.f54, Tryz.func54, by kernel_rfl, by kernel_rfl⟩
theorem into55 : Into Tryz.prog 55 := ⟨Tryz.f55, Tryz.func55, by kernel_rfl, by kernel_rfl⟩
theorem into56 : Into Tryz.prog 56 := ⟨Tryz.f56, Tryz.func56, by kernel_rfl, by kernel_rfl⟩
theorem into57 : Into Tryz.prog 57 := ⟨Tryz.f57, Tryz.func57, by kernel_rfl, by kernel_rfl⟩
theorem into58 : Into Tryz.prog 58 := ⟨Tryz.f58, Tryz.func58, by kernel_rfl, by kernel_rfl⟩
theorem into59 : Into Tryz.prog 59 := ⟨Tryz.f59, Tryz.func59, by kernel_rfl, by kernel_rfl⟩
theorem into60 : Into Tryz.prog 60 := ⟨Tryz.f60, Tryz.func60, by kernel_rfl, by kernel_rfl⟩
theorem into61 : Into Tryz.prog 61 := ⟨Tryz.f61, Tryz.func61, by kernel_rfl, by kernel_rfl⟩
theorem into62 : Into Tryz.prog 62 := ⟨Tryz.f62, Tryz.func62, by kernel_rfl, by kernel_rfl⟩
theorem into63 : Into Tryz.prog 63 := ⟨Tryz.f63, Tryz.func63, by kernel_rfl, by kernel_rfl⟩
theorem into64 : Into Tryz.prog 64 := ⟨Tryz.f64, Tryz.func64, by kernel_rfl, by kernel_rfl⟩
theorem into65 : Into Tryz.prog 65 := ⟨Tryz.f65, Tryz.func65, by kernel_rfl, by kernel_rfl⟩
theorem into66 : Into Tryz.prog 66 := ⟨Tryz.f66, Tryz.func66, by kernel_rfl, by kernel_rfl⟩
theorem into67 : Into Tryz.prog 67 := ⟨Tryz.f67, Tryz.func67, by kernel_rfl, by kernel_rfl⟩
theorem into68 : Into Tryz.prog 68 := ⟨Tryz.f68, Tryz.func68, by kernel_rfl, by kernel_rfl⟩
theorem into69 : Into Tryz.prog 69 := ⟨Tryz.f69, Tryz.func69, by kernel_rfl, by kernel_rfl⟩
theorem into70 : Into Tryz.prog 70 := ⟨Tryz.f70, Tryz.func70, by kernel_rfl, by kernel_rfl⟩
theorem into71 : Into Tryz.prog 71 := ⟨Tryz.f71, Tryz.func71, by kernel_rfl, by kernel_rfl⟩
theorem into72 : Into Tryz.prog 72 := ⟨Tryz.f72, Tryz.func72, by kernel_rfl, by kernel_rfl⟩
theorem into73 : Into Tryz.prog 73 := ⟨Tryz.f73, Tryz.func73, by kernel_rfl, by kernel_rfl⟩
theorem into74 : Into Tryz.prog 74 := ⟨Tryz.f74, Tryz.func74, by kernel_rfl, by kernel_rfl⟩
theorem into75 : Into Tryz.prog 75 := ⟨Tryz.f75, Tryz.func75, by kernel_rfl, by kernel_rfl⟩
theorem into76 : Into Tryz.prog 76 := ⟨Tryz.f76, Tryz.func76, by kernel_rfl, by kernel_rfl⟩
theorem into77 : Into Tryz.prog 77 := ⟨Tryz.f77, Tryz.func77, by kernel_rfl, by kernel_rfl⟩
theorem into78 : Into Tryz.prog 78 := ⟨Tryz.f78, Tryz.func78, by kernel_rfl, by kernel_rfl⟩
theorem into79 : Into Tryz.prog 79 := ⟨Tryz.f79, Tryz.func79, by kernel_rfl, by kernel_rfl⟩
theorem into80 : Into Tryz.prog 80 := ⟨Tryz.f80, Tryz.func80, by kernel_rfl, by kernel_rfl⟩
theorem into81 : Into Tryz.prog 81 := ⟨Tryz.f81, Tryz.func81, by kernel_rfl, by kernel_rfl⟩
theorem into82 : Into Tryz.prog 82 := ⟨Tryz.f82, Tryz.func82, by kernel_rfl, by kernel_rfl⟩
theorem into83 : Into Tryz.prog 83 := ⟨Tryz.f83, Tryz.func83, by kernel_rfl, by kernel_rfl⟩
theorem into84 : Into Tryz.prog 84 := ⟨Tryz.f84, Tryz.func84, by kernel_rfl, by kernel_rfl⟩
theorem into85 : Into Tryz.prog 85 := ⟨Tryz.f85, Tryz.func85, by kernel_rfl, by kernel_rfl⟩
theorem into86 : Into Tryz.prog 86 := ⟨Tryz.f86, Tryz.func86, by kernel_rfl, by kernel_rfl⟩
theorem into87 : Into Tryz.prog 87 := ⟨Tryz.f87, Tryz.func87, by kernel_rfl, by kernel_rfl⟩
theorem into88 : Into Tryz.prog 88 := ⟨Tryz.f88, Tryz.func88, by kernel_rfl, by kernel_rfl⟩
theorem into89 : Into Tryz.prog 89 := ⟨Tryz.f89, Tryz.func89, by kernel_rfl, by kernel_rfl⟩
theorem into90 : Into Tryz.prog 90 := ⟨Tryz.f90, Tryz.func90, by kernel_rfl, by kernel_rfl⟩
theorem into91 : Into Tryz.prog 91 := ⟨Tryz.f91, Tryz.func91, by kernel_rfl, by kernel_rfl⟩
theorem into92 : Into Tryz.prog 92 := ⟨Tryz.f92, Tryz.func92, by kernel_rfl, by kernel_rfl⟩
theorem into93 : Into Tryz.prog 93 := ⟨Tryz.f93, Tryz.func93, by kernel_rfl, by kernel_rfl⟩
theorem into94 : Into Tryz.prog 94 := ⟨Tryz.f94, Tryz.func94, by kernel_rfl, by kernel_rfl⟩
theorem into95 : Into Tryz.prog 95 := ⟨Tryz.f95, Tryz.func95, by kernel_rfl, by kernel_rfl⟩
theorem into96 : Into Tryz.prog 96 := ⟨Tryz.f96, Tryz.func96, by kernel_rfl, by kernel_rfl⟩
theorem into97 : Into Tryz.prog 97 := ⟨Tryz.f97, Tryz.func97, by kernel_rfl, by kernel_rfl⟩
theorem into98 : Into Tryz.prog 98 := ⟨Tryz.f98, Tryz.func98, by kernel_rfl, by kernel_rfl⟩
theorem into99 : Into Tryz.prog 99 := ⟨Tryz.f99, Tryz.func99, by kernel_rfl, by kernel_rfl⟩
theorem into100 : Into Tryz.prog 100 := ⟨Tryz.f100, Tryz.func100, by kernel_rfl, by kernel_rfl⟩
theorem into101 : Into Tryz.prog 101 := ⟨Tryz.f101, Tryz.func101, by kernel_rfl, by kernel_rfl⟩
theorem into102 : Into Tryz.prog 102 := ⟨Tryz.f102, Tryz.func102, by kernel_rfl, by kernel_rfl⟩
theorem into103 : Into Tryz.prog 103 := ⟨Tryz.f103, Tryz.func103, by kernel_rfl, by kernel_rfl⟩
theorem into104 : Into Tryz.prog 104 := ⟨Tryz.f104, Tryz.func104, by kernel_rfl, by kernel_rfl⟩
theorem place7 : ∀ w, ((#[⟨"x", 2, 0, false, "", "runtime", 0⟩, ⟨"y", 3, 1, false, "", "runtime", 8⟩, ⟨"signed", 4, 2, false, "", "runtime", 16⟩, ⟨"code", 6, 3, false, "", "runtime", 17⟩].mapM fun (f : Field) => do pure (f.offset, ← sizeOf f.type) : Sem (Array (Nat × Nat)))).run Tryz.prog w = .ok #[(0, 1), (1, 1), (2, 1), (3, 1)] w := fun w => by kernel_rfl
theorem place8 : ∀ w, ((#[⟨"x", 2, 0, false, "", "runtime", 0⟩, ⟨"y", 3, 1, false, "", "runtime", 8⟩, ⟨"signed", 4, 2, false, "", "runtime", 16⟩, ⟨"code", 6, 3, false, "", "runtime", 17⟩].mapM fun (f : Field) => do pure (f.offset, ← sizeOf f.type) : Sem (Array (Nat × Nat)))).run Tryz.prog w = .ok #[(0, 1), (1, 1), (2, 1), (3, 1)] w := fun w => by kernel_rfl
theorem place13 : ∀ w, ((#[⟨"msg", 9, 0, false, "", "runtime", 0⟩, ⟨"addr", 12, 1, false, "", "runtime", 16⟩].mapM fun (f : Field) => do pure (f.offset, ← sizeOf f.type) : Sem (Array (Nat × Nat)))).run Tryz.prog w = .ok #[(0, 1), (1, 1)] w := fun w => by kernel_rfl
theorem place14 : ∀ w, ((#[⟨"msg", 9, 0, false, "", "runtime", 0⟩, ⟨"addr", 12, 1, false, "", "runtime", 16⟩].mapM fun (f : Field) => do pure (f.offset, ← sizeOf f.type) : Sem (Array (Nat × Nat)))).run Tryz.prog w = .ok #[(0, 1), (1, 1)] w := fun w => by kernel_rfl
theorem place18 : ∀ w, ((#[⟨"typ", 17, 0, false, "", "internal/runtime/maps", 0⟩].mapM fun (f : Field) => do pure (f.offset, ← sizeOf f.type) : Sem (Array (Nat × Nat)))).run Tryz.prog w = .ok #[(0, 1)] w := fun w => by kernel_rfl
theorem place19 : ∀ w, ((#[⟨"typ", 17, 0, false, "", "internal/runtime/maps", 0⟩].mapM fun (f : Field) => do pure (f.offset, ← sizeOf f.type) : Sem (Array (Nat × Nat)))).run Tryz.prog w = .ok #[(0, 1)] w := fun w => by kernel_rfl
theorem place26 : ∀ w, ((#[⟨"Ins", 22, 0, false, "", "", 0⟩, ⟨"Regs", 23, 1, false, "", "", 24⟩, ⟨"Gates", 24, 2, false, "", "", 48⟩, ⟨"Outs", 25, 3, false, "", "", 72⟩].mapM fun (f : Field) => do pure (f.offset, ← sizeOf f.type) : Sem (Array (Nat × Nat)))).run Tryz.prog w = .ok #[(0, 1), (1, 1), (2, 1), (3, 1)] w := fun w => by kernel_rfl
theorem place27 : ∀ w, ((#[⟨"Ins", 22, 0, false, "", "", 0⟩, ⟨"Regs", 23, 1, false, "", "", 24⟩, ⟨"Gates", 24, 2, false, "", "", 48⟩, ⟨"Outs", 25, 3, false, "", "", 72⟩].mapM fun (f : Field) => do pure (f.offset, ← sizeOf f.type) : Sem (Array (Nat × Nat)))).run Tryz.prog w = .ok #[(0, 1), (1, 1), (2, 1), (3, 1)] w := fun w => by kernel_rfl
theorem place60 : ∀ w, ((#[⟨"from", 3, 0, false, "", "netwright/cycle", 0⟩, ⟨"ins", 3, 1, false, "", "netwright/cycle", 8⟩].mapM fun (f : Field) => do pure (f.offset, ← sizeOf f.type) : Sem (Array (Nat × Nat)))).run Tryz.prog w = .ok #[(0, 1), (1, 1)] w := fun w => by kernel_rfl
theorem place61 : ∀ w, ((#[⟨"from", 3, 0, false, "", "netwright/cycle", 0⟩, ⟨"ins", 3, 1, false, "", "netwright/cycle", 8⟩].mapM fun (f : Field) => do pure (f.offset, ← sizeOf f.type) : Sem (Array (Nat × Nat)))).run Tryz.prog w = .ok #[(0, 1), (1, 1)] w := fun w => by kernel_rfl
theorem place76 : ∀ w, ((#[⟨"Name", 9, 0, false, "", "", 0⟩, ⟨"Init", 44, 1, false, "", "", 16⟩, ⟨"Next", 3, 2, false, "", "", 24⟩].mapM fun (f : Field) => do pure (f.offset, ← sizeOf f.type) : Sem (Array (Nat × Nat)))).run Tryz.prog w = .ok #[(0, 1), (1, 1), (2, 1)] w := fun w => by kernel_rfl
theorem place77 : ∀ w, ((#[⟨"Name", 9, 0, false, "", "", 0⟩, ⟨"Init", 44, 1, false, "", "", 16⟩, ⟨"Next", 3, 2, false, "", "", 24⟩].mapM fun (f : Field) => do pure (f.offset, ← sizeOf f.type) : Sem (Array (Nat × Nat)))).run Tryz.prog w = .ok #[(0, 1), (1, 1), (2, 1)] w := fun w => by kernel_rfl
theorem place81 : ∀ w, ((#[⟨"Name", 9, 0, false, "", "", 0⟩, ⟨"Lit", 3, 1, false, "", "", 16⟩].mapM fun (f : Field) => do pure (f.offset, ← sizeOf f.type) : Sem (Array (Nat × Nat)))).run Tryz.prog w = .ok #[(0, 1), (1, 1)] w := fun w => by kernel_rfl
theorem place82 : ∀ w, ((#[⟨"Name", 9, 0, false, "", "", 0⟩, ⟨"Lit", 3, 1, false, "", "", 16⟩].mapM fun (f : Field) => do pure (f.offset, ← sizeOf f.type) : Sem (Array (Nat × Nat)))).run Tryz.prog w = .ok #[(0, 1), (1, 1)] w := fun w => by kernel_rfl
theorem place149 : ∀ w, ((#[⟨"_interface", 17, 0, false, "", "runtime", 0⟩, ⟨"concrete", 17, 1, false, "", "runtime", 8⟩, ⟨"asserted", 17, 2, false, "", "runtime", 16⟩, ⟨"missingMethod", 9, 3, false, "", "runtime", 24⟩].mapM fun (f : Field) => do pure (f.offset, ← sizeOf f.type) : Sem (Array (Nat × Nat)))).run Tryz.prog w = .ok #[(0, 1), (1, 1), (2, 1), (3, 1)] w := fun w => by kernel_rfl
theorem place150 : ∀ w, ((#[⟨"_interface", 17, 0, false, "", "runtime", 0⟩, ⟨"concrete", 17, 1, false, "", "runtime", 8⟩, ⟨"asserted", 17, 2, false, "", "runtime", 16⟩, ⟨"missingMethod", 9, 3, false, "", "runtime", 24⟩].mapM fun (f : Field) => do pure (f.offset, ← sizeOf f.type) : Sem (Array (Nat × Nat)))).run Tryz.prog w = .ok #[(0, 1), (1, 1), (2, 1), (3, 1)] w := fun w => by kernel_rfl
theorem place152 : ∀ w, ((#[⟨"_", 151, 0, false, "", "runtime", 0⟩].mapM fun (f : Field) => do pure (f.offset, ← sizeOf f.type) : Sem (Array (Nat × Nat)))).run Tryz.prog w = .ok #[(0, 0)] w := fun w => by kernel_rfl
theorem place153 : ∀ w, ((#[⟨"_", 151, 0, false, "", "runtime", 0⟩].mapM fun (f : Field) => do pure (f.offset, ← sizeOf f.type) : Sem (Array (Nat × Nat)))).run Tryz.prog w = .ok #[(0, 0)] w := fun w => by kernel_rfl
theorem place161 : ∀ w, ((#[⟨"Size_", 12, 0, false, "", "", 0⟩, ⟨"PtrBytes", 12, 1, false, "", "", 8⟩, ⟨"Hash", 121, 2, false, "", "", 16⟩, ⟨"TFlag", 155, 3, false, "", "", 20⟩, ⟨"Align_", 5, 4, false, "", "", 21⟩, ⟨"FieldAlign_", 5, 5, false, "", "", 22⟩, ⟨"Kind_", 156, 6, false, "", "", 23⟩, ⟨"Equal", 157, 7, false, "", "", 24⟩, ⟨"GCData", 158, 8, false, "", "", 32⟩, ⟨"Str", 159, 9, false, "", "", 40⟩, ⟨"PtrToThis", 160, 10, false, "", "", 44⟩].mapM fun (f : Field) => do pure (f.offset, ← sizeOf f.type) : Sem (Array (Nat × Nat)))).run Tryz.prog w = .ok #[(0, 1), (1, 1), (2, 1), (3, 1), (4, 1), (5, 1), (6, 1), (7, 1), (8, 1), (9, 1), (10, 1)] w := fun w => by kernel_rfl
theorem place162 : ∀ w, ((#[⟨"Size_", 12, 0, false, "", "", 0⟩, ⟨"PtrBytes", 12, 1, false, "", "", 8⟩, ⟨"Hash", 121, 2, false, "", "", 16⟩, ⟨"TFlag", 155, 3, false, "", "", 20⟩, ⟨"Align_", 5, 4, false, "", "", 21⟩, ⟨"FieldAlign_", 5, 5, false, "", "", 22⟩, ⟨"Kind_", 156, 6, false, "", "", 23⟩, ⟨"Equal", 157, 7, false, "", "", 24⟩, ⟨"GCData", 158, 8, false, "", "", 32⟩, ⟨"Str", 159, 9, false, "", "", 40⟩, ⟨"PtrToThis", 160, 10, false, "", "", 44⟩].mapM fun (f : Field) => do pure (f.offset, ← sizeOf f.type) : Sem (Array (Nat × Nat)))).run Tryz.prog w = .ok #[(0, 1), (1, 1), (2, 1), (3, 1), (4, 1), (5, 1), (6, 1), (7, 1), (8, 1), (9, 1), (10, 1)] w := fun w => by kernel_rfl
end Go.Proofs.YtnnklpmgncbgnaaGreat
