/- Each of these functions is the program's own, compiled: closed facts by the kernel. -/
import Derived.Test.YtfnbadgomacipaaGreatDoorProg
import Derived.Test.YtfnbadgomacipaaGreatDoorTb
import Derived.KernelRfl
namespace Go.Ae
open Go Go.Proofs
set_option maxRecDepth 100000
theorem c7 : funC Tryz.prog (midL namesT 0) Tryz.f7 = some F7 := by kernel_rfl
theorem n7 : (Tryz.f7.name == "runtime.NumGoroutine") = false := by kernel_rfl
theorem g7 : Good Tryz.prog (midL namesT 0) 7 F7 := ⟨Tryz.f7, Tryz.func7, n7, c7⟩
theorem c13 : funC Tryz.prog (midL namesT 0) Tryz.f13 = some F13 := by kernel_rfl
theorem n13 : (Tryz.f13.name == "runtime.NumGoroutine") = false := by kernel_rfl
theorem g13 : Good Tryz.prog (midL namesT 0) 13 F13 := ⟨Tryz.f13, Tryz.func13, n13, c13⟩
theorem c19 : funC Tryz.prog (midL namesT 0) Tryz.f19 = some F19 := by kernel_rfl
theorem n19 : (Tryz.f19.name == "runtime.NumGoroutine") = false := by kernel_rfl
theorem g19 : Good Tryz.prog (midL namesT 0) 19 F19 := ⟨Tryz.f19, Tryz.func19, n19, c19⟩
theorem c25 : funC Tryz.prog (midL namesT 0) Tryz.f25 = some F25 := by kernel_rfl
theorem n25 : (Tryz.f25.name == "runtime.NumGoroutine") = false := by kernel_rfl
theorem g25 : Good Tryz.prog (midL namesT 0) 25 F25 := ⟨Tryz.f25, Tryz.func25, n25, c25⟩
theorem c31 : funC Tryz.prog (midL namesT 0) Tryz.f31 = some F31 := by kernel_rfl
theorem n31 : (Tryz.f31.name == "runtime.NumGoroutine") = false := by kernel_rfl
theorem g31 : Good Tryz.prog (midL namesT 0) 31 F31 := ⟨Tryz.f31, Tryz.func31, n31, c31⟩
theorem c37 : funC Tryz.prog (midL namesT 0) Tryz.f37 = some F37 := by kernel_rfl
theorem n37 : (Tryz.f37.name == "runtime.NumGoroutine") = false := by kernel_rfl
theorem g37 : Good Tryz.prog (midL namesT 0) 37 F37 := ⟨Tryz.f37, Tryz.func37, n37, c37⟩
theorem c43 : funC Tryz.prog (midL namesT 0) Tryz.f43 = some F43 := by kernel_rfl
theorem n43 : (Tryz.f43.name == "runtime.NumGoroutine") = false := by kernel_rfl
theorem g43 : Good Tryz.prog (midL namesT 0) 43 F43 := ⟨Tryz.f43, Tryz.func43, n43, c43⟩
theorem c49 : funC Tryz.prog (midL namesT 0) Tryz.f49 = some F49 := by kernel_rfl
theorem n49 : (Tryz.f49.name == "runtime.NumGoroutine") = false := by kernel_rfl
theorem g49 : Good Tryz.prog (midL namesT 0) 49 F49 := ⟨Tryz.f49, Tryz.func49, n49, c49⟩
theorem c55 : funC Tryz.prog (midL namesT 0) Tryz.f55 = some F55 := by kernel_rfl
theorem n55 : (Tryz.f55.name == "runtime.NumGoroutine") = false := by kernel_rfl
theorem g55 : Good Tryz.prog (midL namesT 0) 55 F55 := ⟨Tryz.f55, Tryz.func55, n55, c55⟩
theorem c61 : funC Tryz.prog (midL namesT 0) Tryz.f61 = some F61 := by kernel_rfl
theorem n61 : (Tryz.f61.name == "runtime.NumGoroutine") = false := by kernel_rfl
theorem g61 : Good Tryz.prog (midL namesT 0) 61 F61 := ⟨Tryz.f61, Tryz.func61, n61, c61⟩
theorem c67 : funC Tryz.prog (midL namesT 0) Tryz.f67 = some F67 := by kernel_rfl
theorem n67 : (Tryz.f67.name == "runtime.NumGoroutine") = false := by kernel_rfl
theorem g67 : Good Tryz.prog (midL namesT 0) 67 F67 := ⟨Tryz.f67, Tryz.func67, n67, c67⟩
theorem c73 : funC Tryz.prog (midL namesT 0) Tryz.f73 = some F73 := by kernel_rfl
theorem n73 : (Tryz.f73.name == "runtime.NumGoroutine") = false := by kernel_rfl
theorem g73 : Good Tryz.prog (midL namesT 0) 73 F73 := ⟨Tryz.f73, Tryz.func73, n73, c73⟩
theorem c80 : funC Tryz.prog (midL namesT 0) Tryz.f80 = some F80 := by kernel_rfl
theorem n80 : (Tryz.f80.name == "runtime.NumGoroutine") = false := by kernel_rfl
theorem g80 : Good Tryz.prog (midL namesT 0) 80 F80 := ⟨Tryz.f80, Tryz.func80, n80, c80⟩
theorem c87 : funC Tryz.prog (midL namesT 0) Tryz.f87 = some F87 := by kernel_rfl
theorem n87 : (Tryz.f87.name == "runtime.NumGoroutine") = false := by kernel_rfl
theorem g87 : Good Tryz.prog (midL namesT 0) 87 F87 := ⟨Tryz.f87, Tryz.func87, n87, c87⟩
theorem c95 : funC Tryz.prog (midL namesT 0) Tryz.f95 = some F95 := by kernel_rfl
theorem n95 : (Tryz.f95.name == "runtime.NumGoroutine") = false := by kernel_rfl
theorem g95 : Good Tryz.prog (midL namesT 0) 95 F95 := ⟨Tryz.f95, Tryz.func95, n95, c95⟩
theorem c102 : funC Tryz.prog (midL namesT 0) Tryz.f102 = some F102 := by kernel_rfl
theorem n102 : (Tryz.f102.name == "runtime.NumGoroutine") = false := by kernel_rfl
theorem g102 : Good Tryz.prog (midL namesT 0) 102 F102 := ⟨Tryz.f102, Tryz.func102, n102, c102⟩
theorem c109 : funC Tryz.prog (midL namesT 0) Tryz.f109 = some F109 := by kernel_rfl
theorem n109 : (Tryz.f109.name == "runtime.NumGoroutine") = false := by kernel_rfl
theorem g109 : Good Tryz.prog (midL namesT 0) 109 F109 := ⟨Tryz.f109, Tryz.func109, n109, c109⟩
theorem c116 : funC Tryz.prog (midL namesT 0) Tryz.f116 = some F116 := by kernel_rfl
theorem n116 : (Tryz.f116.name == "runtime.NumGoroutine") = false := by kernel_rfl
theorem g116 : Good Tryz.prog (midL namesT 0) 116 F116 := ⟨Tryz.f116, Tryz.func116, n116, c116⟩
theorem c123 : funC Tryz.prog (midL namesT 0) Tryz.f123 = some F123 := by kernel_rfl
theorem n123 : (Tryz.f123.name == "runtime.NumGoroutine") = false := by kernel_rfl
theorem g123 : Good Tryz.prog (midL namesT 0) 123 F123 := ⟨Tryz.f123, Tryz.func123, n123, c123⟩
theorem c129 : funC Tryz.prog (midL namesT 0) Tryz.f129 = some F129 := by kernel_rfl
theorem n129 : (Tryz.f129.name == "runtime.NumGoroutine") = false := by kernel_rfl
theorem g129 : Good Tryz.prog (midL namesT 0) 129 F129 := ⟨Tryz.f129, Tryz.func129, n129, c129⟩
theorem c141 : funC Tryz.prog (midL namesT 0) Tryz.f141 = some F141 := by kernel_rfl
theorem n141 : (Tryz.f141.name == "runtime.NumGoroutine") = false := by kernel_rfl
theorem g141 : Good Tryz.prog (midL namesT 0) 141 F141 := ⟨Tryz.f141, Tryz.func141, n141, c141⟩
theorem c149 : funC Tryz.prog (midL namesT 0) Tryz.f149 = some F149 := by kernel_rfl
theorem n149 : (Tryz.f149.name == "runtime.NumGoroutine") = false := by kernel_rfl
theorem g149 : Good Tryz.prog (midL namesT 0) 149 F149 := ⟨Tryz.f149, Tryz.func149, n149, c149⟩
theorem c168 : funC Tryz.prog (midL namesT 0) Tryz.f168 = some F168 := by kernel_rfl
theorem n168 : (Tryz.f168.name == "runtime.NumGoroutine") = false := by kernel_rfl
theorem g168 : Good Tryz.prog (midL namesT 0) 168 F168 := ⟨Tryz.f168, Tryz.func168, n168, c168⟩
theorem c189 : funC Tryz.prog (midL namesT 0) Tryz.f189 = some F189 := by kernel_rfl
theorem n189 : (Tryz.f189.name == "runtime.NumGoroutine") = false := by kernel_rfl
theorem g189 : Good Tryz.prog (midL namesT 0) 189 F189 := ⟨Tryz.f189, Tryz.func189, n189, c189⟩
theorem c201 : funC Tryz.prog (midL namesT 0) Tryz.f201 = some F201 := by kernel_rfl
theorem n201 : (Tryz.f201.name == "runtime.NumGoroutine") = false := by kernel_rfl
theorem g201 : Good Tryz.prog (midL namesT 0) 201 F201 := ⟨Tryz.f201, Tryz.func201, n201, c201⟩
theorem c224 : funC Tryz.prog (midL namesT 0) Tryz.f224 = some F224 := by kernel_rfl
theorem n224 : (Tryz.f224.name == "runtime.NumGoroutine") = false := by kernel_rfl
theorem g224 : Good Tryz.prog (midL namesT 0) 224 F224 := ⟨Tryz.f224, Tryz.func224, n224, c224⟩
theorem c255 : funC Tryz.prog (midL namesT 0) Tryz.f255 = some F255 := by kernel_rfl
theorem n255 : (Tryz.f255.name == "runtime.NumGoroutine") = false := by kernel_rfl
theorem g255 : Good Tryz.prog (midL namesT 0) 255 F255 := ⟨Tryz.f255, Tryz.func255, n255, c255⟩
theorem c386 : funC Tryz.prog (midL namesT 0) Tryz.f386 = some F386 := by kernel_rfl
theorem n386 : (Tryz.f386.name == "runtime.NumGoroutine") = false := by kernel_rfl
theorem g386 : Good Tryz.prog (midL namesT 0) 386 F386 := ⟨Tryz.f386, Tryz.func386, n386, c386⟩
end Go.Ae
