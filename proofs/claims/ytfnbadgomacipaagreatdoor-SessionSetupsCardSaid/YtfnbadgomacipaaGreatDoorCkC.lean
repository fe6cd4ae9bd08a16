/- Each of these functions is the program's own, compiled: closed facts by the kernel. -/
import Derived.Test.YtfnbadgomacipaaGreatDoorProg
import Derived.Test.YtfnbadgomacipaaGreatDoorTb
import Derived.KernelRfl
namespace Go.Ae
open Go Go.Proofs
set_option maxRecDepth 100000
theorem c5 : funC Tryz.prog (midL namesT 0) Tryz.f5 = some F5 := by kernel_rfl
theorem n5 : (Tryz.f5.name == "runtime.NumGoroutine") = false := by kernel_rfl
theorem g5 : Good Tryz.prog (midL namesT 0) 5 F5 := ⟨Tryz.f5, Tryz.func5, n5, c5⟩
theorem c11 : funC Tryz.prog (midL namesT 0) Tryz.f11 = some F11 := by kernel_rfl
theorem n11 : (Tryz.f11.name == "runtime.NumGoroutine") = false := by kernel_rfl
theorem g11 : Good Tryz.prog (midL namesT 0) 11 F11 := ⟨Tryz.f11, Tryz.func11, n11, c11⟩
theorem c17 : funC Tryz.prog (midL namesT 0) Tryz.f17 = some F17 := by kernel_rfl
theorem n17 : (Tryz.f17.name == "runtime.NumGoroutine") = false := by kernel_rfl
theorem g17 : Good Tryz.prog (midL namesT 0) 17 F17 := ⟨Tryz.f17, Tryz.func17, n17, c17⟩
theorem c23 : funC Tryz.prog (midL namesT 0) Tryz.f23 = some F23 := by kernel_rfl
theorem n23 : (Tryz.f23.name == "runtime.NumGoroutine") = false := by kernel_rfl
theorem g23 : Good Tryz.prog (midL namesT 0) 23 F23 := ⟨Tryz.f23, Tryz.func23, n23, c23⟩
theorem c29 : funC Tryz.prog (midL namesT 0) Tryz.f29 = some F29 := by kernel_rfl
theorem n29 : (Tryz.f29.name == "runtime.NumGoroutine") = false := by kernel_rfl
theorem g29 : Good Tryz.prog (midL namesT 0) 29 F29 := ⟨Tryz.f29, Tryz.func29, n29, c29⟩
theorem c35 : funC Tryz.prog (midL namesT 0) Tryz.f35 = some F35 := by kernel_rfl
theorem n35 : (Tryz.f35.name == "runtime.NumGoroutine") = false := by kernel_rfl
theorem g35 : Good Tryz.prog (midL namesT 0) 35 F35 := ⟨Tryz.f35, Tryz.func35, n35, c35⟩
theorem c41 : funC Tryz.prog (midL namesT 0) Tryz.f41 = some F41 := by kernel_rfl
theorem n41 : (Tryz.f41.name == "runtime.NumGoroutine") = false := by kernel_rfl
theorem g41 : Good Tryz.prog (midL namesT 0) 41 F41 := ⟨Tryz.f41, Tryz.func41, n41, c41⟩
theorem c47 : funC Tryz.prog (midL namesT 0) Tryz.f47 = some F47 := by kernel_rfl
theorem n47 : (Tryz.f47.name == "runtime.NumGoroutine") = false := by kernel_rfl
theorem g47 : Good Tryz.prog (midL namesT 0) 47 F47 := ⟨Tryz.f47, Tryz.func47, n47, c47⟩
theorem c53 : funC Tryz.prog (midL namesT 0) Tryz.f53 = some F53 := by kernel_rfl
theorem n53 : (Tryz.f53.name == "runtime.NumGoroutine") = false := by kernel_rfl
theorem g53 : Good Tryz.prog (midL namesT 0) 53 F53 := ⟨Tryz.f53, Tryz.func53, n53, c53⟩
theorem c59 : funC Tryz.prog (midL namesT 0) Tryz.f59 = some F59 := by kernel_rfl
theorem n59 : (Tryz.f59.name == "runtime.NumGoroutine") = false := by kernel_rfl
theorem g59 : Good Tryz.prog (midL namesT 0) 59 F59 := ⟨Tryz.f59, Tryz.func59, n59, c59⟩
theorem c65 : funC Tryz.prog (midL namesT 0) Tryz.f65 = some F65 := by kernel_rfl
theorem n65 : (Tryz.f65.name == "runtime.NumGoroutine") = false := by kernel_rfl
theorem g65 : Good Tryz.prog (midL namesT 0) 65 F65 := ⟨Tryz.f65, Tryz.func65, n65, c65⟩
theorem c71 : funC Tryz.prog (midL namesT 0) Tryz.f71 = some F71 := by kernel_rfl
theorem n71 : (Tryz.f71.name == "runtime.NumGoroutine") = false := by kernel_rfl
theorem g71 : Good Tryz.prog (midL namesT 0) 71 F71 := ⟨Tryz.f71, Tryz.func71, n71, c71⟩
theorem c78 : funC Tryz.prog (midL namesT 0) Tryz.f78 = some F78 := by kernel_rfl
theorem n78 : (Tryz.f78.name == "runtime.NumGoroutine") = false := by kernel_rfl
theorem g78 : Good Tryz.prog (midL namesT 0) 78 F78 := ⟨Tryz.f78, Tryz.func78, n78, c78⟩
theorem c84 : funC Tryz.prog (midL namesT 0) Tryz.f84 = some F84 := by kernel_rfl
theorem n84 : (Tryz.f84.name == "runtime.NumGoroutine") = false := by kernel_rfl
theorem g84 : Good Tryz.prog (midL namesT 0) 84 F84 := ⟨Tryz.f84, Tryz.func84, n84, c84⟩
theorem c91 : funC Tryz.prog (midL namesT 0) Tryz.f91 = some F91 := by kernel_rfl
theorem n91 : (Tryz.f91.name == "runtime.NumGoroutine") = false := by kernel_rfl
theorem g91 : Good Tryz.prog (midL namesT 0) 91 F91 := ⟨Tryz.f91, Tryz.func91, n91, c91⟩
theorem c99 : funC Tryz.prog (midL namesT 0) Tryz.f99 = some F99 := by kernel_rfl
theorem n99 : (Tryz.f99.name == "runtime.NumGoroutine") = false := by kernel_rfl
theorem g99 : Good Tryz.prog (midL namesT 0) 99 F99 := ⟨Tryz.f99, Tryz.func99, n99, c99⟩
theorem c107 : funC Tryz.prog (midL namesT 0) Tryz.f107 = some F107 := by kernel_rfl
theorem n107 : (Tryz.f107.name == "runtime.NumGoroutine") = false := by kernel_rfl
theorem g107 : Good Tryz.prog (midL namesT 0) 107 F107 := ⟨Tryz.f107, Tryz.func107, n107, c107⟩
theorem c113 : funC Tryz.prog (midL namesT 0) Tryz.f113 = some F113 := by kernel_rfl
theorem n113 : (Tryz.f113.name == "runtime.NumGoroutine") = false := by kernel_rfl
theorem g113 : Good Tryz.prog (midL namesT 0) 113 F113 := ⟨Tryz.f113, Tryz.func113, n113, c113⟩
theorem c121 : funC Tryz.prog (midL namesT 0) Tryz.f121 = some F121 := by kernel_rfl
theorem n121 : (Tryz.f121.name == "runtime.NumGoroutine") = false := by kernel_rfl
theorem g121 : Good Tryz.prog (midL namesT 0) 121 F121 := ⟨Tryz.f121, Tryz.func121, n121, c121⟩
theorem c127 : funC Tryz.prog (midL namesT 0) Tryz.f127 = some F127 := by kernel_rfl
theorem n127 : (Tryz.f127.name == "runtime.NumGoroutine") = false := by kernel_rfl
theorem g127 : Good Tryz.prog (midL namesT 0) 127 F127 := ⟨Tryz.f127, Tryz.func127, n127, c127⟩
theorem c134 : funC Tryz.prog (midL namesT 0) Tryz.f134 = some F134 := by kernel_rfl
theorem n134 : (Tryz.f134.name == "runtime.NumGoroutine") = false := by kernel_rfl
theorem g134 : Good Tryz.prog (midL namesT 0) 134 F134 := ⟨Tryz.f134, Tryz.func134, n134, c134⟩
theorem c147 : funC Tryz.prog (midL namesT 0) Tryz.f147 = some F147 := by kernel_rfl
theorem n147 : (Tryz.f147.name == "runtime.NumGoroutine") = false := by kernel_rfl
theorem g147 : Good Tryz.prog (midL namesT 0) 147 F147 := ⟨Tryz.f147, Tryz.func147, n147, c147⟩
theorem c166 : funC Tryz.prog (midL namesT 0) Tryz.f166 = some F166 := by kernel_rfl
theorem n166 : (Tryz.f166.name == "runtime.NumGoroutine") = false := by kernel_rfl
theorem g166 : Good Tryz.prog (midL namesT 0) 166 F166 := ⟨Tryz.f166, Tryz.func166, n166, c166⟩
theorem c187 : funC Tryz.prog (midL namesT 0) Tryz.f187 = some F187 := by kernel_rfl
theorem n187 : (Tryz.f187.name == "runtime.NumGoroutine") = false := by kernel_rfl
theorem g187 : Good Tryz.prog (midL namesT 0) 187 F187 := ⟨Tryz.f187, Tryz.func187, n187, c187⟩
theorem c193 : funC Tryz.prog (midL namesT 0) Tryz.f193 = some F193 := by kernel_rfl
theorem n193 : (Tryz.f193.name == "runtime.NumGoroutine") = false := by kernel_rfl
theorem g193 : Good Tryz.prog (midL namesT 0) 193 F193 := ⟨Tryz.f193, Tryz.func193, n193, c193⟩
theorem c217 : funC Tryz.prog (midL namesT 0) Tryz.f217 = some F217 := by kernel_rfl
theorem n217 : (Tryz.f217.name == "runtime.NumGoroutine") = false := by kernel_rfl
theorem g217 : Good Tryz.prog (midL namesT 0) 217 F217 := ⟨Tryz.f217, Tryz.func217, n217, c217⟩
theorem c251 : funC Tryz.prog (midL namesT 0) Tryz.f251 = some F251 := by kernel_rfl
theorem n251 : (Tryz.f251.name == "runtime.NumGoroutine") = false := by kernel_rfl
theorem g251 : Good Tryz.prog (midL namesT 0) 251 F251 := ⟨Tryz.f251, Tryz.func251, n251, c251⟩
theorem c384 : funC Tryz.prog (midL namesT 0) Tryz.f384 = some F384 := by kernel_rfl
theorem n384 : (Tryz.f384.name == "runtime.NumGoroutine") = false := by kernel_rfl
theorem g384 : Good Tryz.prog (midL namesT 0) 384 F384 := ⟨Tryz.f384, Tryz.func384, n384, c384⟩
end Go.Ae
