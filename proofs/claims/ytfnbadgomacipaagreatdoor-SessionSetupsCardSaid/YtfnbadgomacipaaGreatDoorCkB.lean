/- Each of these functions is the program's own, compiled: closed facts by the kernel. -/
import Derived.Test.YtfnbadgomacipaaGreatDoorProg
import Derived.Test.YtfnbadgomacipaaGreatDoorTb
import Derived.KernelRfl
namespace Go.Ae
open Go Go.Proofs
set_option maxRecDepth 100000
theorem c4 : funC Tryz.prog (midL namesT 0) Tryz.f4 = some F4 := by kernel_rfl
theorem n4 : (Tryz.f4.name == "runtime.NumGoroutine") = false := by kernel_rfl
theorem g4 : Good Tryz.prog (midL namesT 0) 4 F4 := ⟨Tryz.f4, Tryz.func4, n4, c4⟩
theorem c10 : funC Tryz.prog (midL namesT 0) Tryz.f10 = some F10 := by kernel_rfl
theorem n10 : (Tryz.f10.name == "runtime.NumGoroutine") = false := by kernel_rfl
theorem g10 : Good Tryz.prog (midL namesT 0) 10 F10 := ⟨Tryz.f10, Tryz.func10, n10, c10⟩
theorem c16 : funC Tryz.prog (midL namesT 0) Tryz.f16 = some F16 := by kernel_rfl
theorem n16 : (Tryz.f16.name == "runtime.NumGoroutine") = false := by kernel_rfl
theorem g16 : Good Tryz.prog (midL namesT 0) 16 F16 := ⟨Tryz.f16, Tryz.func16, n16, c16⟩
theorem c22 : funC Tryz.prog (midL namesT 0) Tryz.f22 = some F22 := by kernel_rfl
theorem n22 : (Tryz.f22.name == "runtime.NumGoroutine") = false := by kernel_rfl
theorem g22 : Good Tryz.prog (midL namesT 0) 22 F22 := ⟨Tryz.f22, Tryz.func22, n22, c22⟩
theorem c28 : funC Tryz.prog (midL namesT 0) Tryz.f28 = some F28 := by kernel_rfl
theorem n28 : (Tryz.f28.name == "runtime.NumGoroutine") = false := by kernel_rfl
theorem g28 : Good Tryz.prog (midL namesT 0) 28 F28 := ⟨Tryz.f28, Tryz.func28, n28, c28⟩
theorem c34 : funC Tryz.prog (midL namesT 0) Tryz.f34 = some F34 := by kernel_rfl
theorem n34 : (Tryz.f34.name == "runtime.NumGoroutine") = false := by kernel_rfl
theorem g34 : Good Tryz.prog (midL namesT 0) 34 F34 := ⟨Tryz.f34, Tryz.func34, n34, c34⟩
theorem c40 : funC Tryz.prog (midL namesT 0) Tryz.f40 = some F40 := by kernel_rfl
theorem n40 : (Tryz.f40.name == "runtime.NumGoroutine") = false := by kernel_rfl
theorem g40 : Good Tryz.prog (midL namesT 0) 40 F40 := ⟨Tryz.f40, Tryz.func40, n40, c40⟩
theorem c46 : funC Tryz.prog (midL namesT 0) Tryz.f46 = some F46 := by kernel_rfl
theorem n46 : (Tryz.f46.name == "runtime.NumGoroutine") = false := by kernel_rfl
theorem g46 : Good Tryz.prog (midL namesT 0) 46 F46 := ⟨Tryz.f46, Tryz.func46, n46, c46⟩
theorem c52 : funC Tryz.prog (midL namesT 0) Tryz.f52 = some F52 := by kernel_rfl
theorem n52 : (Tryz.f52.name == "runtime.NumGoroutine") = false := by kernel_rfl
theorem g52 : Good Tryz.prog (midL namesT 0) 52 F52 := ⟨Tryz.f52, Tryz.func52, n52, c52⟩
theorem c58 : funC Tryz.prog (midL namesT 0) Tryz.f58 = some F58 := by kernel_rfl
theorem n58 : (Tryz.f58.name == "runtime.NumGoroutine") = false := by kernel_rfl
theorem g58 : Good Tryz.prog (midL namesT 0) 58 F58 := ⟨Tryz.f58, Tryz.func58, n58, c58⟩
theorem c64 : funC Tryz.prog (midL namesT 0) Tryz.f64 = some F64 := by kernel_rfl
theorem n64 : (Tryz.f64.name == "runtime.NumGoroutine") = false := by kernel_rfl
theorem g64 : Good Tryz.prog (midL namesT 0) 64 F64 := ⟨Tryz.f64, Tryz.func64, n64, c64⟩
theorem c70 : funC Tryz.prog (midL namesT 0) Tryz.f70 = some F70 := by kernel_rfl
theorem n70 : (Tryz.f70.name == "runtime.NumGoroutine") = false := by kernel_rfl
theorem g70 : Good Tryz.prog (midL namesT 0) 70 F70 := ⟨Tryz.f70, Tryz.func70, n70, c70⟩
theorem c77 : funC Tryz.prog (midL namesT 0) Tryz.f77 = some F77 := by kernel_rfl
theorem n77 : (Tryz.f77.name == "runtime.NumGoroutine") = false := by kernel_rfl
theorem g77 : Good Tryz.prog (midL namesT 0) 77 F77 := ⟨Tryz.f77, Tryz.func77, n77, c77⟩
theorem c83 : funC Tryz.prog (midL namesT 0) Tryz.f83 = some F83 := by kernel_rfl
theorem n83 : (Tryz.f83.name == "runtime.NumGoroutine") = false := by kernel_rfl
theorem g83 : Good Tryz.prog (midL namesT 0) 83 F83 := ⟨Tryz.f83, Tryz.func83, n83, c83⟩
theorem c90 : funC Tryz.prog (midL namesT 0) Tryz.f90 = some F90 := by kernel_rfl
theorem n90 : (Tryz.f90.name == "runtime.NumGoroutine") = false := by kernel_rfl
theorem g90 : Good Tryz.prog (midL namesT 0) 90 F90 := ⟨Tryz.f90, Tryz.func90, n90, c90⟩
theorem c98 : funC Tryz.prog (midL namesT 0) Tryz.f98 = some F98 := by kernel_rfl
theorem n98 : (Tryz.f98.name == "runtime.NumGoroutine") = false := by kernel_rfl
theorem g98 : Good Tryz.prog (midL namesT 0) 98 F98 := ⟨Tryz.f98, Tryz.func98, n98, c98⟩
theorem c106 : funC Tryz.prog (midL namesT 0) Tryz.f106 = some F106 := by kernel_rfl
theorem n106 : (Tryz.f106.name == "runtime.NumGoroutine") = false := by kernel_rfl
theorem g106 : Good Tryz.prog (midL namesT 0) 106 F106 := ⟨Tryz.f106, Tryz.func106, n106, c106⟩
theorem c112 : funC Tryz.prog (midL namesT 0) Tryz.f112 = some F112 := by kernel_rfl
theorem n112 : (Tryz.f112.name == "runtime.NumGoroutine") = false := by kernel_rfl
theorem g112 : Good Tryz.prog (midL namesT 0) 112 F112 := ⟨Tryz.f112, Tryz.func112, n112, c112⟩
theorem c120 : funC Tryz.prog (midL namesT 0) Tryz.f120 = some F120 := by kernel_rfl
theorem n120 : (Tryz.f120.name == "runtime.NumGoroutine") = false := by kernel_rfl
theorem g120 : Good Tryz.prog (midL namesT 0) 120 F120 := ⟨Tryz.f120, Tryz.func120, n120, c120⟩
theorem c126 : funC Tryz.prog (midL namesT 0) Tryz.f126 = some F126 := by kernel_rfl
theorem n126 : (Tryz.f126.name == "runtime.NumGoroutine") = false := by kernel_rfl
theorem g126 : Good Tryz.prog (midL namesT 0) 126 F126 := ⟨Tryz.f126, Tryz.func126, n126, c126⟩
theorem c133 : funC Tryz.prog (midL namesT 0) Tryz.f133 = some F133 := by kernel_rfl
theorem n133 : (Tryz.f133.name == "runtime.NumGoroutine") = false := by kernel_rfl
theorem g133 : Good Tryz.prog (midL namesT 0) 133 F133 := ⟨Tryz.f133, Tryz.func133, n133, c133⟩
theorem c145 : funC Tryz.prog (midL namesT 0) Tryz.f145 = some F145 := by kernel_rfl
theorem n145 : (Tryz.f145.name == "runtime.NumGoroutine") = false := by kernel_rfl
theorem g145 : Good Tryz.prog (midL namesT 0) 145 F145 := ⟨Tryz.f145, Tryz.func145, n145, c145⟩
theorem c164 : funC Tryz.prog (midL namesT 0) Tryz.f164 = some F164 := by kernel_rfl
theorem n164 : (Tryz.f164.name == "runtime.NumGoroutine") = false := by kernel_rfl
theorem g164 : Good Tryz.prog (midL namesT 0) 164 F164 := ⟨Tryz.f164, Tryz.func164, n164, c164⟩
theorem c185 : funC Tryz.prog (midL namesT 0) Tryz.f185 = some F185 := by kernel_rfl
theorem n185 : (Tryz.f185.name == "runtime.NumGoroutine") = false := by kernel_rfl
theorem g185 : Good Tryz.prog (midL namesT 0) 185 F185 := ⟨Tryz.f185, Tryz.func185, n185, c185⟩
theorem c192 : funC Tryz.prog (midL namesT 0) Tryz.f192 = some F192 := by kernel_rfl
theorem n192 : (Tryz.f192.name == "runtime.NumGoroutine") = false := by kernel_rfl
theorem g192 : Good Tryz.prog (midL namesT 0) 192 F192 := ⟨Tryz.f192, Tryz.func192, n192, c192⟩
theorem c216 : funC Tryz.prog (midL namesT 0) Tryz.f216 = some F216 := by kernel_rfl
theorem n216 : (Tryz.f216.name == "runtime.NumGoroutine") = false := by kernel_rfl
theorem g216 : Good Tryz.prog (midL namesT 0) 216 F216 := ⟨Tryz.f216, Tryz.func216, n216, c216⟩
theorem c244 : funC Tryz.prog (midL namesT 0) Tryz.f244 = some F244 := by kernel_rfl
theorem n244 : (Tryz.f244.name == "runtime.NumGoroutine") = false := by kernel_rfl
theorem g244 : Good Tryz.prog (midL namesT 0) 244 F244 := ⟨Tryz.f244, Tryz.func244, n244, c244⟩
theorem c383 : funC Tryz.prog (midL namesT 0) Tryz.f383 = some F383 := by kernel_rfl
theorem n383 : (Tryz.f383.name == "runtime.NumGoroutine") = false := by kernel_rfl
theorem g383 : Good Tryz.prog (midL namesT 0) 383 F383 := ⟨Tryz.f383, Tryz.func383, n383, c383⟩
end Go.Ae
