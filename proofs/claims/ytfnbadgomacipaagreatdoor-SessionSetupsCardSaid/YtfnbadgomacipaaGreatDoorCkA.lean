/- Each of these functions is the program's own, compiled: closed facts by the kernel. -/
import Derived.Test.YtfnbadgomacipaaGreatDoorProg
import Derived.Test.YtfnbadgomacipaaGreatDoorTb
import Derived.KernelRfl
namespace Go.Ae
open Go Go.Proofs
set_option maxRecDepth 100000
theorem c3 : funC Tryz.prog (midL namesT 0) Tryz.f3 = some F3 := by kernel_rfl
theorem n3 : (Tryz.f3.name == "runtime.NumGoroutine") = false := by kernel_rfl
theorem g3 : Good Tryz.prog (midL namesT 0) 3 F3 := ⟨Tryz.f3, Tryz.func3, n3, c3⟩
theorem c9 : funC Tryz.prog (midL namesT 0) Tryz.f9 = some F9 := by kernel_rfl
theorem n9 : (Tryz.f9.name == "runtime.NumGoroutine") = false := by kernel_rfl
theorem g9 : Good Tryz.prog (midL namesT 0) 9 F9 := ⟨Tryz.f9, Tryz.func9, n9, c9⟩
theorem c15 : funC Tryz.prog (midL namesT 0) Tryz.f15 = some F15 := by kernel_rfl
theorem n15 : (Tryz.f15.name == "runtime.NumGoroutine") = false := by kernel_rfl
theorem g15 : Good Tryz.prog (midL namesT 0) 15 F15 := ⟨Tryz.f15, Tryz.func15, n15, c15⟩
theorem c21 : funC Tryz.prog (midL namesT 0) Tryz.f21 = some F21 := by kernel_rfl
theorem n21 : (Tryz.f21.name == "runtime.NumGoroutine") = false := by kernel_rfl
theorem g21 : Good Tryz.prog (midL namesT 0) 21 F21 := ⟨Tryz.f21, Tryz.func21, n21, c21⟩
theorem c27 : funC Tryz.prog (midL namesT 0) Tryz.f27 = some F27 := by kernel_rfl
theorem n27 : (Tryz.f27.name == "runtime.NumGoroutine") = false := by kernel_rfl
theorem g27 : Good Tryz.prog (midL namesT 0) 27 F27 := ⟨Tryz.f27, Tryz.func27, n27, c27⟩
theorem c33 : funC Tryz.prog (midL namesT 0) Tryz.f33 = some F33 := by kernel_rfl
theorem n33 : (Tryz.f33.name == "runtime.NumGoroutine") = false := by kernel_rfl
theorem g33 : Good Tryz.prog (midL namesT 0) 33 F33 := ⟨Tryz.f33, Tryz.func33, n33, c33⟩
theorem c39 : funC Tryz.prog (midL namesT 0) Tryz.f39 = some F39 := by kernel_rfl
theorem n39 : (Tryz.f39.name == "runtime.NumGoroutine") = false := by kernel_rfl
theorem g39 : Good Tryz.prog (midL namesT 0) 39 F39 := ⟨Tryz.f39, Tryz.func39, n39, c39⟩
theorem c45 : funC Tryz.prog (midL namesT 0) Tryz.f45 = some F45 := by kernel_rfl
theorem n45 : (Tryz.f45.name == "runtime.NumGoroutine") = false := by kernel_rfl
theorem g45 : Good Tryz.prog (midL namesT 0) 45 F45 := ⟨Tryz.f45, Tryz.func45, n45, c45⟩
theorem c51 : funC Tryz.prog (midL namesT 0) Tryz.f51 = some F51 := by kernel_rfl
theorem n51 : (Tryz.f51.name == "runtime.NumGoroutine") = false := by kernel_rfl
theorem g51 : Good Tryz.prog (midL namesT 0) 51 F51 := ⟨Tryz.f51, Tryz.func51, n51, c51⟩
theorem c57 : funC Tryz.prog (midL namesT 0) Tryz.f57 = some F57 := by kernel_rfl
theorem n57 : (Tryz.f57.name == "runtime.NumGoroutine") = false := by kernel_rfl
theorem g57 : Good Tryz.prog (midL namesT 0) 57 F57 := ⟨Tryz.f57, Tryz.func57, n57, c57⟩
theorem c63 : funC Tryz.prog (midL namesT 0) Tryz.f63 = some F63 := by kernel_rfl
theorem n63 : (Tryz.f63.name == "runtime.NumGoroutine") = false := by kernel_rfl
theorem g63 : Good Tryz.prog (midL namesT 0) 63 F63 := ⟨Tryz.f63, Tryz.func63, n63, c63⟩
theorem c69 : funC Tryz.prog (midL namesT 0) Tryz.f69 = some F69 := by kernel_rfl
theorem n69 : (Tryz.f69.name == "runtime.NumGoroutine") = false := by kernel_rfl
theorem g69 : Good Tryz.prog (midL namesT 0) 69 F69 := ⟨Tryz.f69, Tryz.func69, n69, c69⟩
theorem c75 : funC Tryz.prog (midL namesT 0) Tryz.f75 = some F75 := by kernel_rfl
theorem n75 : (Tryz.f75.name == "runtime.NumGoroutine") = false := by kernel_rfl
theorem g75 : Good Tryz.prog (midL namesT 0) 75 F75 := ⟨Tryz.f75, Tryz.func75, n75, c75⟩
theorem c82 : funC Tryz.prog (midL namesT 0) Tryz.f82 = some F82 := by kernel_rfl
theorem n82 : (Tryz.f82.name == "runtime.NumGoroutine") = false := by kernel_rfl
theorem g82 : Good Tryz.prog (midL namesT 0) 82 F82 := ⟨Tryz.f82, Tryz.func82, n82, c82⟩
theorem c89 : funC Tryz.prog (midL namesT 0) Tryz.f89 = some F89 := by kernel_rfl
theorem n89 : (Tryz.f89.name == "runtime.NumGoroutine") = false := by kernel_rfl
theorem g89 : Good Tryz.prog (midL namesT 0) 89 F89 := ⟨Tryz.f89, Tryz.func89, n89, c89⟩
theorem c97 : funC Tryz.prog (midL namesT 0) Tryz.f97 = some F97 := by kernel_rfl
theorem n97 : (Tryz.f97.name == "runtime.NumGoroutine") = false := by kernel_rfl
theorem g97 : Good Tryz.prog (midL namesT 0) 97 F97 := ⟨Tryz.f97, Tryz.func97, n97, c97⟩
theorem c104 : funC Tryz.prog (midL namesT 0) Tryz.f104 = some F104 := by kernel_rfl
theorem n104 : (Tryz.f104.name == "runtime.NumGoroutine") = false := by kernel_rfl
theorem g104 : Good Tryz.prog (midL namesT 0) 104 F104 := ⟨Tryz.f104, Tryz.func104, n104, c104⟩
theorem c111 : funC Tryz.prog (midL namesT 0) Tryz.f111 = some F111 := by kernel_rfl
theorem n111 : (Tryz.f111.name == "runtime.NumGoroutine") = false := by kernel_rfl
theorem g111 : Good Tryz.prog (midL namesT 0) 111 F111 := ⟨Tryz.f111, Tryz.func111, n111, c111⟩
theorem c119 : funC Tryz.prog (midL namesT 0) Tryz.f119 = some F119 := by kernel_rfl
theorem n119 : (Tryz.f119.name == "runtime.NumGoroutine") = false := by kernel_rfl
theorem g119 : Good Tryz.prog (midL namesT 0) 119 F119 := ⟨Tryz.f119, Tryz.func119, n119, c119⟩
theorem c125 : funC Tryz.prog (midL namesT 0) Tryz.f125 = some F125 := by kernel_rfl
theorem n125 : (Tryz.f125.name == "runtime.NumGoroutine") = false := by kernel_rfl
theorem g125 : Good Tryz.prog (midL namesT 0) 125 F125 := ⟨Tryz.f125, Tryz.func125, n125, c125⟩
theorem c132 : funC Tryz.prog (midL namesT 0) Tryz.f132 = some F132 := by kernel_rfl
theorem n132 : (Tryz.f132.name == "runtime.NumGoroutine") = false := by kernel_rfl
theorem g132 : Good Tryz.prog (midL namesT 0) 132 F132 := ⟨Tryz.f132, Tryz.func132, n132, c132⟩
theorem c144 : funC Tryz.prog (midL namesT 0) Tryz.f144 = some F144 := by kernel_rfl
theorem n144 : (Tryz.f144.name == "runtime.NumGoroutine") = false := by kernel_rfl
theorem g144 : Good Tryz.prog (midL namesT 0) 144 F144 := ⟨Tryz.f144, Tryz.func144, n144, c144⟩
theorem c162 : funC Tryz.prog (midL namesT 0) Tryz.f162 = some F162 := by kernel_rfl
theorem n162 : (Tryz.f162.name == "runtime.NumGoroutine") = false := by kernel_rfl
theorem g162 : Good Tryz.prog (midL namesT 0) 162 F162 := ⟨Tryz.f162, Tryz.func162, n162, c162⟩
theorem c184 : funC Tryz.prog (midL namesT 0) Tryz.f184 = some F184 := by kernel_rfl
theorem n184 : (Tryz.f184.name == "runtime.NumGoroutine") = false := by kernel_rfl
theorem g184 : Good Tryz.prog (midL namesT 0) 184 F184 := ⟨Tryz.f184, Tryz.func184, n184, c184⟩
theorem c191 : funC Tryz.prog (midL namesT 0) Tryz.f191 = some F191 := by kernel_rfl
theorem n191 : (Tryz.f191.name == "runtime.NumGoroutine") = false := by kernel_rfl
theorem g191 : Good Tryz.prog (midL namesT 0) 191 F191 := ⟨Tryz.f191, Tryz.func191, n191, c191⟩
theorem c215 : funC Tryz.prog (midL namesT 0) Tryz.f215 = some F215 := by kernel_rfl
theorem n215 : (Tryz.f215.name == "runtime.NumGoroutine") = false := by kernel_rfl
theorem g215 : Good Tryz.prog (midL namesT 0) 215 F215 := ⟨Tryz.f215, Tryz.func215, n215, c215⟩
theorem c235 : funC Tryz.prog (midL namesT 0) Tryz.f235 = some F235 := by kernel_rfl
theorem n235 : (Tryz.f235.name == "runtime.NumGoroutine") = false := by kernel_rfl
theorem g235 : Good Tryz.prog (midL namesT 0) 235 F235 := ⟨Tryz.f235, Tryz.func235, n235, c235⟩
theorem c296 : funC Tryz.prog (midL namesT 0) Tryz.f296 = some F296 := by kernel_rfl
theorem n296 : (Tryz.f296.name == "runtime.NumGoroutine") = false := by kernel_rfl
theorem g296 : Good Tryz.prog (midL namesT 0) 296 F296 := ⟨Tryz.f296, Tryz.func296, n296, c296⟩
end Go.Ae
