/- Facts of the program: types and functions, by the kernel (printed by facts.py). -/
import Derived.Test.YtbojpddejdmamaaDoorEngO
import Derived.Test.YtbojpddejdmamaaDoorChecked
import Derived.KernelRfl
namespace Go.Proofs.YtbojpddejdmamaaDoor
open Go
/-- Conditions in their plain form. -/
theorem nrm : (∀ (p : Prop) [Decidable p], (decide p = true) = p) ∧ (∀ (p : Prop) [Decidable p], (decide p = false) = ¬p) ∧ (∀ b : Bool, ((!b) = true) = (b = false)) ∧ (∀ b : Bool, ((!b) = false) = (b = true)) ∧ (∀ {α : Type} [BEq α] [LawfulBEq α] {a b : α}, ((a == b) = true) ↔ a = b) ∧ (∀ {α : Type} [BEq α] [LawfulBEq α] {a b : α}, ((a != b) = true) ↔ a ≠ b) ∧ (∀ {α : Type} [BEq α] [LawfulBEq α] {a b : α}, ((a == b) = false) ↔ a ≠ b) ∧ (∀ {α : Type} [BEq α] [LawfulBEq α] {a b : α}, ((a != b) = false) ↔ a = b) ∧ (∀ a b : Bool, ((a || b) = true) = (a = true ∨ b = true)) ∧ (∀ a b : Bool, ((a && b) = true) = (a = true ∧ b = true)) ∧ (∀ a b : Bool, ((a || b) = false) = (a = false ∧ b = false)) ∧ (∀ {α : Type} [LT α] {a b : α}, (a > b) ↔ b < a) ∧ (∀ {α : Type} [LE α] {a b : α}, (a ≥ b) ↔ b ≤ a) := ⟨fun _ _ => decide_eq_true_eq, fun _ _ => propext decide_eq_false_iff_not, fun b => by cases b <;> simp, fun b => by cases b <;> simp, beq_iff_eq, bne_iff_ne, beq_eq_false_iff_ne, bne_eq_false_iff_eq, Bool.or_eq_true, Bool.and_eq_true, fun a b => by cases a <;> cases b <;> simp, gt_iff_lt, ge_iff_le⟩
theorem info0 : Tryd.prog.info? 0 = some Tryd.t0 := by kernel_rfl
theorem info1 : Tryd.prog.info? 1 = some Tryd.t1 := by kernel_rfl
theorem info2 : Tryd.prog.info? 2 = some Tryd.t2 := by kernel_rfl
theorem info3 : Tryd.prog.info? 3 = some Tryd.t3 := by kernel_rfl
theorem info4 : Tryd.prog.info? 4 = some Tryd.t4 := by kernel_rfl
theorem info5 : Tryd.prog.info? 5 = some Tryd.t5 := by kernel_rfl
theorem info6 : Tryd.prog.info? 6 = some Tryd.t6 := by kernel_rfl
theorem info7 : Tryd.prog.info? 7 = some Tryd.t7 := by kernel_rfl
theorem info8 : Tryd.prog.info? 8 = some Tryd.t8 := by kernel_rfl
theorem info9 : Tryd.prog.info? 9 = some Tryd.t9 := by kernel_rfl
theorem info10 : Tryd.prog.info? 10 = some Tryd.t10 := by kernel_rfl
theorem info11 : Tryd.prog.info? 11 = some Tryd.t11 := by kernel_rfl
theorem info12 : Tryd.prog.info? 12 = some Tryd.t12 := by kernel_rfl
theorem info13 : Tryd.prog.info? 13 = some Tryd.t13 := by kernel_rfl
theorem info14 : Tryd.prog.info? 14 = some Tryd.t14 := by kernel_rfl
theorem info15 : Tryd.prog.info? 15 = some Tryd.t15 := by kernel_rfl
theorem info16 : Tryd.prog.info? 16 = some Tryd.t16 := by kernel_rfl
theorem info17 : Tryd.prog.info? 17 = some Tryd.t17 := by kernel_rfl
theorem info18 : Tryd.prog.info? 18 = some Tryd.t18 := by kernel_rfl
theorem info19 : Tryd.prog.info? 19 = some Tryd.t19 := by kernel_rfl
theorem info20 : Tryd.prog.info? 20 = some Tryd.t20 := by kernel_rfl
theorem info21 : Tryd.prog.info? 21 = some Tryd.t21 := by kernel_rfl
theorem info22 : Tryd.prog.info? 22 = some Tryd.t22 := by kernel_rfl
theorem info23 : Tryd.prog.info? 23 = some Tryd.t23 := by kernel_rfl
theorem info24 : Tryd.prog.info? 24 = some Tryd.t24 := by kernel_rfl
theorem info25 : Tryd.prog.info? 25 = some Tryd.t25 := by kernel_rfl
theorem info26 : Tryd.prog.info? 26 = some Tryd.t26 := by kernel_rfl
theorem info27 : Tryd.prog.info? 27 = some Tryd.t27 := by kernel_rfl
theorem info28 : Tryd.prog.info? 28 = some Tryd.t28 := by kernel_rfl
theorem info29 : Tryd.prog.info? 29 = some Tryd.t29 := by kernel_rfl
theorem info30 : Tryd.prog.info? 30 = some Tryd.t30 := by kernel_rfl
theorem info31 : Tryd.prog.info? 31 = some Tryd.t31 := by kernel_rfl
theorem info32 : Tryd.prog.info? 32 = some Tryd.t32 := by kernel_rfl
theorem info33 : Tryd.prog.info? 33 = some Tryd.t33 := by kernel_rfl
theorem info34 : Tryd.prog.info? 34 = some Tryd.t34 := by kernel_rfl
theorem info35 : Tryd.prog.info? 35 = some Tryd.t35 := by kernel_rfl
theorem info36 : Tryd.prog.info? 36 = some Tryd.t36 := by kernel_rfl
theorem info37 : Tryd.prog.info? 37 = some Tryd.t37 := by kernel_rfl
theorem info38 : Tryd.prog.info? 38 = some Tryd.t38 := by kernel_rfl
theorem info39 : Tryd.prog.info? 39 = some Tryd.t39 := by kernel_rfl
theorem info40 : Tryd.prog.info? 40 = some Tryd.t40 := by kernel_rfl
theorem info41 : Tryd.prog.info? 41 = some Tryd.t41 := by kernel_rfl
theorem info42 : Tryd.prog.info? 42 = some Tryd.t42 := by kernel_rfl
theorem info43 : Tryd.prog.info? 43 = some Tryd.t43 := by kernel_rfl
theorem info44 : Tryd.prog.info? 44 = some Tryd.t44 := by kernel_rfl
theorem info45 : Tryd.prog.info? 45 = some Tryd.t45 := by kernel_rfl
theorem info46 : Tryd.prog.info? 46 = some Tryd.t46 := by kernel_rfl
theorem info47 : Tryd.prog.info? 47 = some Tryd.t47 := by kernel_rfl
theorem info48 : Tryd.prog.info? 48 = some Tryd.t48 := by kernel_rfl
theorem info49 : Tryd.prog.info? 49 = some Tryd.t49 := by kernel_rfl
theorem info50 : Tryd.prog.info? 50 = some Tryd.t50 := by kernel_rfl
theorem info51 : Tryd.prog.info? 51 = some Tryd.t51 := by kernel_rfl
theorem info52 : Tryd.prog.info? 52 = some Tryd.t52 := by kernel_rfl
theorem info53 : Tryd.prog.info? 53 = some Tryd.t53 := by kernel_rfl
theorem info54 : Tryd.prog.info? 54 = some Tryd.t54 := by kernel_rfl
theorem info55 : Tryd.prog.info? 55 = some Tryd.t55 := by kernel_rfl
theorem info56 : Tryd.prog.info? 56 = some Tryd.t56 := by kernel_rfl
theorem info57 : Tryd.prog.info? 57 = some Tryd.t57 := by kernel_rfl
theorem info58 : Tryd.prog.info? 58 = some Tryd.t58 := by kernel_rfl
theorem info59 : Tryd.prog.info? 59 = some Tryd.t59 := by kernel_rfl
theorem info60 : Tryd.prog.info? 60 = some Tryd.t60 := by kernel_rfl
theorem info61 : Tryd.prog.info? 61 = some Tryd.t61 := by kernel_rfl
theorem info62 : Tryd.prog.info? 62 = some Tryd.t62 := by kernel_rfl
theorem info63 : Tryd.prog.info? 63 = some Tryd.t63 := by kernel_rfl
theorem info64 : Tryd.prog.info? 64 = some Tryd.t64 := by kernel_rfl
theorem info65 : Tryd.prog.info? 65 = some Tryd.t65 := by kernel_rfl
theorem info66 : Tryd.prog.info? 66 = some Tryd.t66 := by kernel_rfl
theorem info67 : Tryd.prog.info? 67 = some Tryd.t67 := by kernel_rfl
theorem info68 : Tryd.prog.info? 68 = some Tryd.t68 := by kernel_rfl
theorem info69 : Tryd.prog.info? 69 = some Tryd.t69 := by kernel_rfl
theorem info70 : Tryd.prog.info? 70 = some Tryd.t70 := by kernel_rfl
theorem info71 : Tryd.prog.info? 71 = some Tryd.t71 := by kernel_rfl
theorem info72 : Tryd.prog.info? 72 = some Tryd.t72 := by kernel_rfl
theorem info73 : Tryd.prog.info? 73 = some Tryd.t73 := by kernel_rfl
theorem info74 : Tryd.prog.info? 74 = some Tryd.t74 := by kernel_rfl
theorem info75 : Tryd.prog.info? 75 = some Tryd.t75 := by kernel_rfl
theorem info76 : Tryd.prog.info? 76 = some Tryd.t76 := by kernel_rfl
theorem info77 : Tryd.prog.info? 77 = some Tryd.t77 := by kernel_rfl
theorem info78 : Tryd.prog.info? 78 = some Tryd.t78 := by kernel_rfl
theorem info79 : Tryd.prog.info? 79 = some Tryd.t79 := by kernel_rfl
theorem info80 : Tryd.prog.info? 80 = some Tryd.t80 := by kernel_rfl
theorem info81 : Tryd.prog.info? 81 = some Tryd.t81 := by kernel_rfl
theorem info82 : Tryd.prog.info? 82 = some Tryd.t82 := by kernel_rfl
theorem info83 : Tryd.prog.info? 83 = some Tryd.t83 := by kernel_rfl
theorem info84 : Tryd.prog.info? 84 = some Tryd.t84 := by kernel_rfl
theorem info85 : Tryd.prog.info? 85 = some Tryd.t85 := by kernel_rfl
theorem info86 : Tryd.prog.info? 86 = some Tryd.t86 := by kernel_rfl
theorem info87 : Tryd.prog.info? 87 = some Tryd.t87 := by kernel_rfl
theorem info88 : Tryd.prog.info? 88 = some Tryd.t88 := by kernel_rfl
theorem info89 : Tryd.prog.info? 89 = some Tryd.t89 := by kernel_rfl
theorem info90 : Tryd.prog.info? 90 = some Tryd.t90 := by kernel_rfl
theorem info91 : Tryd.prog.info? 91 = some Tryd.t91 := by kernel_rfl
theorem info92 : Tryd.prog.info? 92 = some Tryd.t92 := by kernel_rfl
theorem info93 : Tryd.prog.info? 93 = some Tryd.t93 := by kernel_rfl
theorem info94 : Tryd.prog.info? 94 = some Tryd.t94 := by kernel_rfl
theorem info95 : Tryd.prog.info? 95 = some Tryd.t95 := by kernel_rfl
theorem info96 : Tryd.prog.info? 96 = some Tryd.t96 := by kernel_rfl
theorem info97 : Tryd.prog.info? 97 = some Tryd.t97 := by kernel_rfl
theorem info98 : Tryd.prog.info? 98 = some Tryd.t98 := by kernel_rfl
theorem info99 : Tryd.prog.info? 99 = some Tryd.t99 := by kernel_rfl
theorem info100 : Tryd.prog.info? 100 = some Tryd.t100 := by kernel_rfl
theorem info101 : Tryd.prog.info? 101 = some Tryd.t101 := by kernel_rfl
theorem info102 : Tryd.prog.info? 102 = some Tryd.t102 := by kernel_rfl
theorem info103 : Tryd.prog.info? 103 = some Tryd.t103 := by kernel_rfl
theorem info104 : Tryd.prog.info? 104 = some Tryd.t104 := by kernel_rfl
theorem info105 : Tryd.prog.info? 105 = some Tryd.t105 := by kernel_rfl
theorem info106 : Tryd.prog.info? 106 = some Tryd.t106 := by kernel_rfl
theorem info107 : Tryd.prog.info? 107 = some Tryd.t107 := by kernel_rfl
theorem info108 : Tryd.prog.info? 108 = some Tryd.t108 := by kernel_rfl
theorem info109 : Tryd.prog.info? 109 = some Tryd.t109 := by kernel_rfl
theorem info110 : Tryd.prog.info? 110 = some Tryd.t110 := by kernel_rfl
theorem info111 : Tryd.prog.info? 111 = some Tryd.t111 := by kernel_rfl
theorem info112 : Tryd.prog.info? 112 = some Tryd.t112 := by kernel_rfl
theorem info113 : Tryd.prog.info? 113 = some Tryd.t113 := by kernel_rfl
theorem info114 : Tryd.prog.info? 114 = some Tryd.t114 := by kernel_rfl
theorem info115 : Tryd.prog.info? 115 = some Tryd.t115 := by kernel_rfl
theorem info116 : Tryd.prog.info? 116 = some Tryd.t116 := by kernel_rfl
theorem info117 : Tryd.prog.info? 117 = some Tryd.t117 := by kernel_rfl
theorem info118 : Tryd.prog.info? 118 = some Tryd.t118 := by kernel_rfl
theorem info119 : Tryd.prog.info? 119 = some Tryd.t119 := by kernel_rfl
theorem info120 : Tryd.prog.info? 120 = some Tryd.t120 := by kernel_rfl
theorem info121 : Tryd.prog.info? 121 = some Tryd.t121 := by kernel_rfl
theorem info122 : Tryd.prog.info? 122 = some Tryd.t122 := by kernel_rfl
theorem info123 : Tryd.prog.info? 123 = some Tryd.t123 := by kernel_rfl
theorem info124 : Tryd.prog.info? 124 = some Tryd.t124 := by kernel_rfl
theorem info125 : Tryd.prog.info? 125 = some Tryd.t125 := by kernel_rfl
theorem info126 : Tryd.prog.info? 126 = some Tryd.t126 := by kernel_rfl
theorem info127 : Tryd.prog.info? 127 = some Tryd.t127 := by kernel_rfl
theorem info128 : Tryd.prog.info? 128 = some Tryd.t128 := by kernel_rfl
theorem info129 : Tryd.prog.info? 129 = some Tryd.t129 := by kernel_rfl
theorem info130 : Tryd.prog.info? 130 = some Tryd.t130 := by kernel_rfl
theorem info131 : Tryd.prog.info? 131 = some Tryd.t131 := by kernel_rfl
theorem info132 : Tryd.prog.info? 132 = some Tryd.t132 := by kernel_rfl
theorem info133 : Tryd.prog.info? 133 = some Tryd.t133 := by kernel_rfl
theorem info134 : Tryd.prog.info? 134 = some Tryd.t134 := by kernel_rfl
theorem info135 : Tryd.prog.info? 135 = some Tryd.t135 := by kernel_rfl
theorem info136 : Tryd.prog.info? 136 = some Tryd.t136 := by kernel_rfl
theorem info137 : Tryd.prog.info? 137 = some Tryd.t137 := by kernel_rfl
theorem info138 : Tryd.prog.info? 138 = some Tryd.t138 := by kernel_rfl
theorem info139 : Tryd.prog.info? 139 = some Tryd.t139 := by kernel_rfl
theorem info140 : Tryd.prog.info? 140 = some Tryd.t140 := by kernel_rfl
theorem info141 : Tryd.prog.info? 141 = some Tryd.t141 := by kernel_rfl
theorem info142 : Tryd.prog.info? 142 = some Tryd.t142 := by kernel_rfl
theorem info143 : Tryd.prog.info? 143 = some Tryd.t143 := by kernel_rfl
theorem info144 : Tryd.prog.info? 144 = some Tryd.t144 := by kernel_rfl
theorem info145 : Tryd.prog.info? 145 = some Tryd.t145 := by kernel_rfl
theorem info146 : Tryd.prog.info? 146 = some Tryd.t146 := by kernel_rfl
theorem info147 : Tryd.prog.info? 147 = some Tryd.t147 := by kernel_rfl
theorem info148 : Tryd.prog.info? 148 = some Tryd.t148 := by kernel_rfl
theorem info149 : Tryd.prog.info? 149 = some Tryd.t149 := by kernel_rfl
theorem info150 : Tryd.prog.info? 150 = some Tryd.t150 := by kernel_rfl
theorem info151 : Tryd.prog.info? 151 = some Tryd.t151 := by kernel_rfl
theorem info152 : Tryd.prog.info? 152 = some Tryd.t152 := by kernel_rfl
theorem info153 : Tryd.prog.info? 153 = some Tryd.t153 := by kernel_rfl
theorem info154 : Tryd.prog.info? 154 = some Tryd.t154 := by kernel_rfl
theorem info155 : Tryd.prog.info? 155 = some Tryd.t155 := by kernel_rfl
theorem info156 : Tryd.prog.info? 156 = some Tryd.t156 := by kernel_rfl
theorem info157 : Tryd.prog.info? 157 = some Tryd.t157 := by kernel_rfl
theorem info158 : Tryd.prog.info? 158 = some Tryd.t158 := by kernel_rfl
theorem into2 : Into Tryd.prog 2 := ⟨Tryd.f2, Tryd.func2, by kernel_rfl, by kernel_rfl⟩
theorem into3 : Into Tryd.prog 3 := ⟨Tryd.f3, Tryd.func3, by kernel_rfl, by kernel_rfl⟩
theorem into4 : Into Tryd.prog 4 := ⟨Tryd.f4, Tryd.func4, by kernel_rfl, by kernel_rfl⟩
theorem into5 : Into Tryd.prog 5 := ⟨Tryd.f5, Tryd.func5, by kernel_rfl, by kernel_rfl⟩
theorem into6 : Into Tryd.prog 6 := ⟨Tryd.f6, Tryd.func6, by kernel_rfl, by kernel_rfl⟩
theorem into7 : Into Tryd.prog 7 := ⟨Tryd.f7, Tryd.func7, by kernel_rfl, by kernel_rfl⟩
theorem into8 : Into Tryd.prog 8 := ⟨Tryd.f8, Tryd.func8, by kernel_rfl, by kernel_rfl⟩
theorem into9 : Into Tryd.prog 9 := ⟨Tryd.f9, Tryd.func9, by kernel_rfl, by kernel_rfl⟩
theorem into10 : Into Tryd.prog 10 := ⟨Tryd.f10, Tryd.func10, by kernel_rfl, by kernel_rfl⟩
theorem into11 : Into Tryd.prog 11 := ⟨Tryd.f11, Tryd.func11, by kernel_rfl, by kernel_rfl⟩
theorem into12 : Into Tryd.prog 12 := ⟨Tryd.f12, Tryd.func12, by kernel_rfl, by kernel_rfl⟩
theorem into13 : Into Tryd.prog 13 := ⟨Tryd.f13, Tryd.func13, by kernel_rfl, by kernel_rfl⟩
theorem into14 : Into Tryd.prog 14 := ⟨Tryd.f14, Tryd.func14, by kernel_rfl, by kernel_rfl⟩
theorem into15 : Into Tryd.prog 15 := ⟨Tryd.f15, Tryd.func15, by kernel_rfl, by kernel_rfl⟩
theorem into16 : Into Tryd.prog 16 := ⟨Tryd.f16, Tryd.func16, by kernel_rfl, by kernel_rfl⟩
theorem into17 : Into Tryd.prog 17 := ⟨Tryd.f17, Tryd.func17, by kernel_rfl, by kernel_rfl⟩
theorem into18 : Into Tryd.prog 18 := ⟨Tryd.f18, Tryd.func18, by kernel_rfl, by kernel_rfl⟩
theorem into19 : Into Tryd.prog 19 := ⟨Tryd.f19, Tryd.func19, by kernel_rfl, by kernel_rfl⟩
theorem into20 : Into Tryd.prog 20 := ⟨Tryd.f20, Tryd.func20, by kernel_rfl, by kernel_rfl⟩
theorem into21 : Into Tryd.prog 21 := ⟨Tryd.f21, Tryd.func21, by kernel_rfl, by kernel_rfl⟩
theorem into22 : Into Tryd.prog 22 := ⟨Tryd.f22, Tryd.func22, by kernel_rfl, by kernel_rfl⟩
theorem into23 : Into Tryd.prog 23 := ⟨Tryd.f23, Tryd.func23, by kernel_rfl, by kernel_rfl⟩
theorem into24 : Into Tryd.prog 24 := ⟨Tryd.f24, Tryd.func24, by kernel_rfl, by kernel_rfl⟩
theorem into25 : Into Tryd.prog 25 := ⟨Tryd.f25, Tryd.func25, by kernel_rfl, by kernel_rfl⟩
theorem into26 : Into Tryd.prog 26 := ⟨Tryd.f26, Tryd.func26, by kernel_rfl, by kernel_rfl⟩
theorem into27 : Into Tryd.prog 27 := ⟨Tryd.f27, Tryd.func27, by kernel_rfl, by kernel_rfl⟩
theorem into28 : Into Tryd.prog 28 := ⟨Tryd.f28, Tryd.func28, by kernel_rfl, by kernel_rfl⟩
theorem into29 : Into Tryd.prog 29 := ⟨Tryd.f29, Tryd.func29, by kernel_rfl, by kernel_rfl⟩
theorem into30 : Into Tryd.prog 30 := ⟨Tryd.f30, Tryd.func30, by kernel_rfl, by kernel_rfl⟩
theorem into31 : Into Tryd.prog 31 := ⟨Tryd.f31, Tryd.func31, by kernel_rfl, by kernel_rfl⟩
theorem into32 : Into Tryd.prog 32 := ⟨Tryd.f32, Tryd.func32, by kernel_rfl, by kernel_rfl⟩
theorem into33 : Into Tryd.prog 33 := ⟨Tryd.f33, Tryd.func33, by kernel_rfl, by kernel_rfl⟩
theorem into34 : Into Tryd.prog 34 := ⟨Tryd.f34, Tryd.func34, by kernel_rfl, by kernel_rfl⟩
theorem into35 : Into Tryd.prog 35 := ⟨Tryd.f35, Tryd.func35, by kernel_rfl, by kernel_rfl⟩
theorem into36 : Into Tryd.prog 36 := ⟨Tryd.f36, Tryd.func36, by kernel_rfl, by kernel_rfl⟩
theorem into37 : Into Tryd.prog 37 := ⟨Tryd.f37, Tryd.func37, by kernel_rfl, by kernel_rfl⟩
theorem into38 : Into Tryd.prog 38 := ⟨Tryd.f38, Tryd.func38, by kernel_rfl, by kernel_rfl⟩
theorem into39 : Into Tryd.prog 39 := ⟨Tryd.f39, Tryd.func39, by kernel_rfl, by kernel_rfl⟩
theorem into40 : Into Tryd.prog 40 := ⟨Tryd.f40, Tryd.func40, by kernel_rfl, by kernel_rfl⟩
theorem into41 : Into Tryd.prog 41 := ⟨Tryd.f41, Tryd.func41, by kernel_rfl, by kernel_rfl⟩
theorem into42 : Into Tryd.prog 42 := ⟨Tryd.f42, Tryd.func42, by kernel_rfl, by kernel_rfl⟩
theorem into43 : Into Tryd.prog 43 := ⟨Tryd.f43, Tryd.func43, by kernel_rfl, by kernel_rfl⟩
theorem into44 : Into Tryd.prog 44 := ⟨Tryd.f44, Tryd.func44, by kernel_rfl, by kernel_rfl⟩
theorem into45 : Into Tryd.prog 45 := ⟨Tryd.f45, Tryd.func45, by kernel_rfl, by kernel_rfl⟩
theorem into46 : Into Tryd.prog 46 := ⟨Tryd.f46, Tryd.func46, by kernel_rfl, by kernel_rfl⟩
theorem into47 : Into Tryd.prog 47 := ⟨Tryd.f47, Tryd.func47, by kernel_rfl, by kernel_rfl⟩
theorem into48 : Into Tryd.prog 48 := ⟨Tryd.f48, Tryd.func48, by kernel_rfl, by kernel_rfl⟩
theorem into49 : Into Tryd.prog 49 := ⟨Tryd.f49, Tryd.func49, by kernel_rfl, by kernel_rfl⟩
theorem into50 : Into Tryd.prog 50 := ⟨Tryd.f50, Tryd.func50, by kernel_rfl, by kernel_rfl⟩
theorem into51 : Into Tryd.prog 51 := ⟨Tryd.f51, Tryd.func51, by kernel_rfl, by kernel_rfl⟩
theorem into52 : Into Tryd.prog 52 := ⟨Tryd.f52, Tryd.func52, by kernel_rfl, by kernel_rfl⟩
theorem into53 : Into Tryd.prog 53 := ⟨Tryd.f53, Tryd.func53, by kernel_rfl, by kernel_rfl⟩
theorem into54 : Into Tryd.prog 54 := ⟨Tryd.f54, Tryd.func54, by kernel_rfl, by kernel_rfl⟩
theorem into55 : Into Tryd.prog 55 := ⟨Tryd.f55, Tryd.func55, by kernel_rfl, by kernel_rfl⟩
theorem into56 : Into Tryd.prog 56 := ⟨Tryd.f56, Tryd.func56, by kernel_rfl, by kernel_rfl⟩
theorem into57 : Into Tryd.prog 57 := ⟨Tryd.f57, Tryd.func57, by kernel_rfl, by kernel_rfl⟩
theorem into58 : Into Tryd.prog 58 := ⟨Tryd.f58, Tryd.func58, by kernel_rfl, by kernel_rfl⟩
theorem into59 : Into Tryd.prog 59 := ⟨Tryd.f59, Tryd.func59, by kernel_rfl, by kernel_rfl⟩
theorem into60 : Into Tryd.prog 60 := ⟨Tryd.f60, Tryd.func60, by kernel_rfl, by kernel_rfl⟩
theorem into61 : Into Tryd.prog 61 := ⟨Tryd.f61, Tryd.func61, by kernel_rfl, by kernel_rfl⟩
theorem into62 : Into Tryd.prog 62 := ⟨Tryd.f62, Tryd.func62, by kernel_rfl, by kernel_rfl⟩
theorem into63 : Into Tryd.prog 63 := ⟨Tryd.f63, Tryd.func63, by kernel_rfl, by kernel_rfl⟩
theorem into64 : Into Tryd.prog 64 := ⟨Tryd.f64, Tryd.func64, by kernel_rfl, by kernel_rfl⟩
theorem into65 : Into Tryd.prog 65 := ⟨Tryd.f65, Tryd.func65, by kernel_rfl, by kernel_rfl⟩
theorem into66 : Into Tryd.prog 66 := ⟨Tryd.f66, Tryd.func66, by kernel_rfl, by kernel_rfl⟩
theorem into67 : Into Tryd.prog 67 := ⟨Tryd.f67, Tryd.func67, by kernel_rfl, by kernel_rfl⟩
theorem into68 : Into Tryd.prog 68 := ⟨Tryd.f68, Tryd.func68, by kernel_rfl, by kernel_rfl⟩
theorem into70 : Into Tryd.prog 70 := ⟨Tryd.f70, Tryd.func70, by kernel_rfl, by kernel_rfl⟩
theorem into71 : Into Tryd.prog 71 := ⟨Tryd.f71, Tryd.func71, by kernel_rfl, by kernel_rfl⟩
theorem into72 : Into Tryd.prog 72 := ⟨Tryd.f72, Tryd.func72, by kernel_rfl, by kernel_rfl⟩
theorem into73 : Into Tryd.prog 73 := ⟨Tryd.f73, Tryd.func73, by kernel_rfl, by kernel_rfl⟩
theorem into77 : Into Tryd.prog 77 := ⟨Tryd.f77, Tryd.func77, by kernel_rfl, by kernel_rfl⟩
theorem into78 : Into Tryd.prog 78 := ⟨Tryd.f78, Tryd.func78, by kernel_rfl, by kernel_rfl⟩
theorem into79 : Into Tryd.prog 79 := ⟨Tryd.f79, Tryd.func79, by kernel_rfl, by kernel_rfl⟩
theorem into80 : Into Tryd.prog 80 := ⟨Tryd.f80, Tryd.func80, by kernel_rfl, by kernel_rfl⟩
theorem into81 : Into Tryd.prog 81 := ⟨Tryd.f81, Tryd.func81, by kernel_rfl, by kernel_rfl⟩
theorem into82 : Into Tryd.prog 82 := ⟨Tryd.f82, Tryd.func82, by kernel_rfl, by kernel_rfl⟩
theorem into83 : Into Tryd.prog 83 := ⟨Tryd.f83, Tryd.func83, by kernel_rfl, by kernel_rfl⟩
theorem into84 : Into Tryd.prog 84 := ⟨Tryd.f84, Tryd.func84, by kernel_rfl, by kernel_rfl⟩
theorem into85 : Into Tryd.prog 85 := ⟨Tryd.f85, Tryd.func85, by kernel_rfl, by kernel_rfl⟩
theorem into86 : Into Tryd.prog 86 := ⟨Tryd.f86, Tryd.func86, by kernel_rfl, by kernel_rfl⟩
theorem into87 : Into Tryd.prog 87 := ⟨Tryd.f87, Tryd.func87, by kernel_rfl, by kernel_rfl⟩
theorem into88 : Into Tryd.prog 88 := ⟨Tryd.f88, Tryd.func88, by kernel_rfl, by kernel_rfl⟩
theorem into89 : Into Tryd.prog 89 := ⟨Tryd.f89, Tryd.func89, by kernel_rfl, by kernel_rfl⟩
theorem into90 : Into Tryd.prog 90 := ⟨Tryd.f90, Tryd.func90, by kernel_rfl, by kernel_rfl⟩
theorem into91 : Into Tryd.prog 91 := ⟨Tryd.f91, Tryd.func91, by kernel_rfl, by kernel_rfl⟩
theorem into92 : Into Tryd.prog 92 := ⟨Tryd.f92, Tryd.func92, by kernel_rfl, by kernel_rfl⟩
theorem into93 : Into Tryd.prog 93 := ⟨Tryd.f93, Tryd.func93, by kernel_rfl, by kernel_rfl⟩
theorem into94 : Into Tryd.prog 94 := ⟨Tryd.f94, Tryd.func94, by kernel_rfl, by kernel_rfl⟩
theorem into95 : Into Tryd.prog 95 := ⟨Tryd.f95, Tryd.func95, by kernel_rfl, by kernel_rfl⟩
theorem into96 : Into Tryd.prog 96 := ⟨Tryd.f96, Tryd.func96, by kernel_rfl, by kernel_rfl⟩
theorem into97 : Into Tryd.prog 97 := ⟨Tryd.f97, Tryd.func97, by kernel_rfl, by kernel_rfl⟩
theorem into98 : Into Tryd.prog 98 := ⟨Tryd.f98, Tryd.func98, by kernel_rfl, by kernel_rfl⟩
theorem into99 : Into Tryd.prog 99 := ⟨Tryd.f99, Tryd.func99, by kernel_rfl, by kernel_rfl⟩
theorem into100 : Into Tryd.prog 100 := ⟨Tryd.f100, Tryd.func100, by kernel_rfl, by kernel_rfl⟩
theorem into101 : Into Tryd.prog 101 := ⟨Tryd.f101, Tryd.func101, by kernel_rfl, by kernel_rfl⟩
theorem into102 : Into Tryd.prog 102 := ⟨Tryd.f102, Tryd.func102, by kernel_rfl, by kernel_rfl⟩
theorem into103 : Into Tryd.prog 103 := ⟨Tryd.f103, Tryd.func103, by kernel_rfl, by kernel_rfl⟩
theorem into136 : Into Tryd.prog 136 := ⟨Tryd.f136, Tryd.func136, by kernel_rfl, by kernel_rfl⟩
theorem place7 : ∀ w, ((#[⟨"x", 2, 0, false, "", "runtime", 0⟩, ⟨"y", 3, 1, false, "", "runtime", 8⟩, ⟨"signed", 4, 2, false, "", "runtime", 16⟩, ⟨"code", 6, 3, false, "", "runtime", 17⟩].mapM fun (f : Field) => do pure (f.offset, ← sizeOf f.type) : Sem (Array (Nat × Nat)))).run Tryd.prog w = .ok #[(0, 1), (1, 1), (2, 1), (3, 1)] w := fun w => by kernel_rfl
theorem place8 : ∀ w, ((#[⟨"x", 2, 0, false, "", "runtime", 0⟩, ⟨"y", 3, 1, false, "", "runtime", 8⟩, ⟨"signed", 4, 2, false, "", "runtime", 16⟩, ⟨"code", 6, 3, false, "", "runtime", 17⟩].mapM fun (f : Field) => do pure (f.offset, ← sizeOf f.type) : Sem (Array (Nat × Nat)))).run Tryd.prog w = .ok #[(0, 1), (1, 1), (2, 1), (3, 1)] w := fun w => by kernel_rfl
theorem place13 : ∀ w, ((#[⟨"msg", 9, 0, false, "", "runtime", 0⟩, ⟨"addr", 12, 1, false, "", "runtime", 16⟩].mapM fun (f : Field) => do pure (f.offset, ← sizeOf f.type) : Sem (Array (Nat × Nat)))).run Tryd.prog w = .ok #[(0, 1), (1, 1)] w := fun w => by kernel_rfl
theorem place14 : ∀ w, ((#[⟨"msg", 9, 0, false, "", "runtime", 0⟩, ⟨"addr", 12, 1, false, "", "runtime", 16⟩].mapM fun (f : Field) => do pure (f.offset, ← sizeOf f.type) : Sem (Array (Nat × Nat)))).run Tryd.prog w = .ok #[(0, 1), (1, 1)] w := fun w => by kernel_rfl
theorem place18 : ∀ w, ((#[⟨"typ", 17, 0, false, "", "internal/runtime/maps", 0⟩].mapM fun (f : Field) => do pure (f.offset, ← sizeOf f.type) : Sem (Array (Nat × Nat)))).run Tryd.prog w = .ok #[(0, 1)] w := fun w => by kernel_rfl
theorem place19 : ∀ w, ((#[⟨"typ", 17, 0, false, "", "internal/runtime/maps", 0⟩].mapM fun (f : Field) => do pure (f.offset, ← sizeOf f.type) : Sem (Array (Nat × Nat)))).run Tryd.prog w = .ok #[(0, 1)] w := fun w => by kernel_rfl
theorem place27 : ∀ w, ((#[⟨"Op", 26, 0, false, "", "", 0⟩, ⟨"Text", 9, 1, false, "", "", 8⟩, ⟨"N", 3, 2, false, "", "", 24⟩, ⟨"Line", 3, 3, false, "", "", 32⟩, ⟨"Col", 3, 4, false, "", "", 40⟩].mapM fun (f : Field) => do pure (f.offset, ← sizeOf f.type) : Sem (Array (Nat × Nat)))).run Tryd.prog w = .ok #[(0, 1), (1, 1), (2, 1), (3, 1), (4, 1)] w := fun w => by kernel_rfl
theorem place28 : ∀ w, ((#[⟨"Op", 26, 0, false, "", "", 0⟩, ⟨"Text", 9, 1, false, "", "", 8⟩, ⟨"N", 3, 2, false, "", "", 24⟩, ⟨"Line", 3, 3, false, "", "", 32⟩, ⟨"Col", 3, 4, false, "", "", 40⟩].mapM fun (f : Field) => do pure (f.offset, ← sizeOf f.type) : Sem (Array (Nat × Nat)))).run Tryd.prog w = .ok #[(0, 1), (1, 1), (2, 1), (3, 1), (4, 1)] w := fun w => by kernel_rfl
theorem place34 : ∀ w, ((#[⟨"Code", 30, 0, false, "", "", 0⟩, ⟨"Name", 9, 1, false, "", "", 8⟩, ⟨"Line", 3, 2, false, "", "", 24⟩, ⟨"Col", 3, 3, false, "", "", 32⟩].mapM fun (f : Field) => do pure (f.offset, ← sizeOf f.type) : Sem (Array (Nat × Nat)))).run Tryd.prog w = .ok #[(0, 1), (1, 1), (2, 1), (3, 1)] w := fun w => by kernel_rfl
theorem place35 : ∀ w, ((#[⟨"Code", 30, 0, false, "", "", 0⟩, ⟨"Name", 9, 1, false, "", "", 8⟩, ⟨"Line", 3, 2, false, "", "", 24⟩, ⟨"Col", 3, 3, false, "", "", 32⟩].mapM fun (f : Field) => do pure (f.offset, ← sizeOf f.type) : Sem (Array (Nat × Nat)))).run Tryd.prog w = .ok #[(0, 1), (1, 1), (2, 1), (3, 1)] w := fun w => by kernel_rfl
theorem place54 : ∀ w, ((#[⟨"s", 9, 0, false, "", "netwright/lexer", 0⟩, ⟨"at", 3, 1, false, "", "netwright/lexer", 16⟩, ⟨"line", 3, 2, false, "", "netwright/lexer", 24⟩, ⟨"col", 3, 3, false, "", "netwright/lexer", 32⟩].mapM fun (f : Field) => do pure (f.offset, ← sizeOf f.type) : Sem (Array (Nat × Nat)))).run Tryd.prog w = .ok #[(0, 1), (1, 1), (2, 1), (3, 1)] w := fun w => by kernel_rfl
theorem place55 : ∀ w, ((#[⟨"s", 9, 0, false, "", "netwright/lexer", 0⟩, ⟨"at", 3, 1, false, "", "netwright/lexer", 16⟩, ⟨"line", 3, 2, false, "", "netwright/lexer", 24⟩, ⟨"col", 3, 3, false, "", "netwright/lexer", 32⟩].mapM fun (f : Field) => do pure (f.offset, ← sizeOf f.type) : Sem (Array (Nat × Nat)))).run Tryd.prog w = .ok #[(0, 1), (1, 1), (2, 1), (3, 1)] w := fun w => by kernel_rfl
theorem place68 : ∀ w, ((#[⟨"addr", 67, 0, false, "", "strings", 0⟩, ⟨"buf", 40, 1, false, "", "strings", 8⟩].mapM fun (f : Field) => do pure (f.offset, ← sizeOf f.type) : Sem (Array (Nat × Nat)))).run Tryd.prog w = .ok #[(0, 1), (1, 1)] w := fun w => by kernel_rfl
theorem place69 : ∀ w, ((#[⟨"addr", 67, 0, false, "", "strings", 0⟩, ⟨"buf", 40, 1, false, "", "strings", 8⟩].mapM fun (f : Field) => do pure (f.offset, ← sizeOf f.type) : Sem (Array (Nat × Nat)))).run Tryd.prog w = .ok #[(0, 1), (1, 1)] w := fun w => by kernel_rfl
theorem place94 : ∀ w, ((#[⟨"start", 3, 0, false, "", "strings", 0⟩, ⟨"end", 3, 1, false, "", "strings", 8⟩].mapM fun (f : Field) => do pure (f.offset, ← sizeOf f.type) : Sem (Array (Nat × Nat)))).run Tryd.prog w = .ok #[(0, 1), (1, 1)] w := fun w => by kernel_rfl
theorem place95 : ∀ w, ((#[⟨"start", 3, 0, false, "", "strings", 0⟩, ⟨"end", 3, 1, false, "", "strings", 8⟩].mapM fun (f : Field) => do pure (f.offset, ← sizeOf f.type) : Sem (Array (Nat × Nat)))).run Tryd.prog w = .ok #[(0, 1), (1, 1)] w := fun w => by kernel_rfl
theorem place113 : ∀ w, ((#[⟨"R16", 111, 0, false, "", "", 0⟩, ⟨"R32", 112, 1, false, "", "", 24⟩, ⟨"LatinOffset", 3, 2, false, "", "", 48⟩].mapM fun (f : Field) => do pure (f.offset, ← sizeOf f.type) : Sem (Array (Nat × Nat)))).run Tryd.prog w = .ok #[(0, 1), (1, 1), (2, 1)] w := fun w => by kernel_rfl
theorem place114 : ∀ w, ((#[⟨"R16", 111, 0, false, "", "", 0⟩, ⟨"R32", 112, 1, false, "", "", 24⟩, ⟨"LatinOffset", 3, 2, false, "", "", 48⟩].mapM fun (f : Field) => do pure (f.offset, ← sizeOf f.type) : Sem (Array (Nat × Nat)))).run Tryd.prog w = .ok #[(0, 1), (1, 1), (2, 1)] w := fun w => by kernel_rfl
theorem place116 : ∀ w, ((#[⟨"Lo", 115, 0, false, "", "", 0⟩, ⟨"Hi", 115, 1, false, "", "", 2⟩, ⟨"Stride", 115, 2, false, "", "", 4⟩].mapM fun (f : Field) => do pure (f.offset, ← sizeOf f.type) : Sem (Array (Nat × Nat)))).run Tryd.prog w = .ok #[(0, 1), (1, 1), (2, 1)] w := fun w => by kernel_rfl
theorem place117 : ∀ w, ((#[⟨"Lo", 115, 0, false, "", "", 0⟩, ⟨"Hi", 115, 1, false, "", "", 2⟩, ⟨"Stride", 115, 2, false, "", "", 4⟩].mapM fun (f : Field) => do pure (f.offset, ← sizeOf f.type) : Sem (Array (Nat × Nat)))).run Tryd.prog w = .ok #[(0, 1), (1, 1), (2, 1)] w := fun w => by kernel_rfl
theorem place119 : ∀ w, ((#[⟨"Lo", 96, 0, false, "", "", 0⟩, ⟨"Hi", 96, 1, false, "", "", 4⟩, ⟨"Stride", 96, 2, false, "", "", 8⟩].mapM fun (f : Field) => do pure (f.offset, ← sizeOf f.type) : Sem (Array (Nat × Nat)))).run Tryd.prog w = .ok #[(0, 1), (1, 1), (2, 1)] w := fun w => by kernel_rfl
theorem place120 : ∀ w, ((#[⟨"Lo", 96, 0, false, "", "", 0⟩, ⟨"Hi", 96, 1, false, "", "", 4⟩, ⟨"Stride", 96, 2, false, "", "", 8⟩].mapM fun (f : Field) => do pure (f.offset, ← sizeOf f.type) : Sem (Array (Nat × Nat)))).run Tryd.prog w = .ok #[(0, 1), (1, 1), (2, 1)] w := fun w => by kernel_rfl
theorem place137 : ∀ w, ((#[⟨"Func", 9, 0, false, "", "", 0⟩, ⟨"Num", 9, 1, false, "", "", 16⟩, ⟨"Err", 71, 2, false, "", "", 32⟩].mapM fun (f : Field) => do pure (f.offset, ← sizeOf f.type) : Sem (Array (Nat × Nat)))).run Tryd.prog w = .ok #[(0, 1), (1, 1), (2, 1)] w := fun w => by kernel_rfl
theorem place138 : ∀ w, ((#[⟨"Func", 9, 0, false, "", "", 0⟩, ⟨"Num", 9, 1, false, "", "", 16⟩, ⟨"Err", 71, 2, false, "", "", 32⟩].mapM fun (f : Field) => do pure (f.offset, ← sizeOf f.type) : Sem (Array (Nat × Nat)))).run Tryd.prog w = .ok #[(0, 1), (1, 1), (2, 1)] w := fun w => by kernel_rfl
theorem place142 : ∀ w, ((#[⟨"s", 9, 0, false, "", "errors", 0⟩].mapM fun (f : Field) => do pure (f.offset, ← sizeOf f.type) : Sem (Array (Nat × Nat)))).run Tryd.prog w = .ok #[(0, 1)] w := fun w => by kernel_rfl
theorem place143 : ∀ w, ((#[⟨"s", 9, 0, false, "", "errors", 0⟩].mapM fun (f : Field) => do pure (f.offset, ← sizeOf f.type) : Sem (Array (Nat × Nat)))).run Tryd.prog w = .ok #[(0, 1)] w := fun w => by kernel_rfl
theorem place146 : ∀ w, ((#[⟨"_interface", 17, 0, false, "", "runtime", 0⟩, ⟨"concrete", 17, 1, false, "", "runtime", 8⟩, ⟨"asserted", 17, 2, false, "", "runtime", 16⟩, ⟨"missingMethod", 9, 3, false, "", "runtime", 24⟩].mapM fun (f : Field) => do pure (f.offset, ← sizeOf f.type) : Sem (Array (Nat × Nat)))).run Tryd.prog w = .ok #[(0, 1), (1, 1), (2, 1), (3, 1)] w := fun w => by kernel_rfl
theorem place147 : ∀ w, ((#[⟨"_interface", 17, 0, false, "", "runtime", 0⟩, ⟨"concrete", 17, 1, false, "", "runtime", 8⟩, ⟨"asserted", 17, 2, false, "", "runtime", 16⟩, ⟨"missingMethod", 9, 3, false, "", "runtime", 24⟩].mapM fun (f : Field) => do pure (f.offset, ← sizeOf f.type) : Sem (Array (Nat × Nat)))).run Tryd.prog w = .ok #[(0, 1), (1, 1), (2, 1), (3, 1)] w := fun w => by kernel_rfl
theorem place149 : ∀ w, ((#[⟨"_", 148, 0, false, "", "runtime", 0⟩].mapM fun (f : Field) => do pure (f.offset, ← sizeOf f.type) : Sem (Array (Nat × Nat)))).run Tryd.prog w = .ok #[(0, 0)] w := fun w => by kernel_rfl
theorem place150 : ∀ w, ((#[⟨"_", 148, 0, false, "", "runtime", 0⟩].mapM fun (f : Field) => do pure (f.offset, ← sizeOf f.type) : Sem (Array (Nat × Nat)))).run Tryd.prog w = .ok #[(0, 0)] w := fun w => by kernel_rfl
theorem place157 : ∀ w, ((#[⟨"Size_", 12, 0, false, "", "", 0⟩, ⟨"PtrBytes", 12, 1, false, "", "", 8⟩, ⟨"Hash", 96, 2, false, "", "", 16⟩, ⟨"TFlag", 152, 3, false, "", "", 20⟩, ⟨"Align_", 5, 4, false, "", "", 21⟩, ⟨"FieldAlign_", 5, 5, false, "", "", 22⟩, ⟨"Kind_", 153, 6, false, "", "", 23⟩, ⟨"Equal", 154, 7, false, "", "", 24⟩, ⟨"GCData", 84, 8, false, "", "", 32⟩, ⟨"Str", 155, 9, false, "", "", 40⟩, ⟨"PtrToThis", 156, 10, false, "", "", 44⟩].mapM fun (f : Field) => do pure (f.offset, ← sizeOf f.type) : Sem (Array (Nat × Nat)))).run Tryd.prog w = .ok #[(0, 1), (1, 1), (2, 1), (3, 1), (4, 1), (5, 1), (6, 1), (7, 1), (8, 1), (9, 1), (10, 1)] w := fun w => by kernel_rfl
theorem place158 : ∀ w, ((#[⟨"Size_", 12, 0, false, "", "", 0⟩, ⟨"PtrBytes", 12, 1, false, "", "", 8⟩, ⟨"Hash", 96, 2, false, "", "", 16⟩, ⟨"TFlag", 152, 3, false, "", "", 20⟩, ⟨"Align_", 5, 4, false, "", "", 21⟩, ⟨"FieldAlign_", 5, 5, false, "", "", 22⟩, ⟨"Kind_", 153, 6, false, "", "", 23⟩, ⟨"Equal", 154, 7, false, "", "", 24⟩, ⟨"GCData", 84, 8, false, "", "", 32⟩, ⟨"Str", 155, 9, false, "", "", 40⟩, ⟨"PtrToThis", 156, 10, false, "", "", 44⟩].mapM fun (f : Field) => do pure (f.offset, ← sizeOf f.type) : Sem (Array (Nat × Nat)))).run Tryd.prog w = .ok #[(0, 1), (1, 1), (2, 1), (3, 1), (4, 1), (5, 1), (6, 1), (7, 1), (8, 1), (9, 1), (10, 1)] w := fun w => by kernel_rfl
end Go.Proofs.YtbojpddejdmamaaDoor
