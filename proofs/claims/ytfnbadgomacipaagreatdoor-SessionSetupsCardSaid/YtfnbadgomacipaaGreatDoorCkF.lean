/- Each of these functions is the program's own, compiled: closed facts by the kernel. -/
import Derived.Test.YtfnbadgomacipaaGreatDoorProg
import Derived.Test.YtfnbadgomacipaaGreatDoorTb
import Derived.KernelRfl
namespace Go.Ae
open Go Go.Proofs
set_option maxRecDepth 100000
theorem c8 : funC Tryz.prog (midL namesT 0) Tryz.f8 = some F8 := by kernel_rfl
theorem n8 : (Tryz.f8.name == "runtime.NumGoroutine") = false := by kernel_rfl
theorem g8 : Good Tryz.prog (midL namesT 0) 8 F8 := ⟨Tryz.f8, Tryz.func8, n8, c8⟩
theorem c14 : funC Tryz.prog (midL namesT 0) Tryz.f14 = some F14 := by kernel_rfl
theorem n14 : (Tryz.f14.name == "runtime.NumGoroutine") = false := by kernel_rfl
theorem g14 : Good Tryz.prog (midL namesT 0) 14 F14 := ⟨Tryz.f14, Tryz.func14, n14, c14⟩
theorem c20 : funC Tryz.prog (midL namesT 0) Tryz.f20 = some F20 := by kernel_rfl
theorem n20 : (Tryz.f20.name == "runtime.NumGoroutine") = false := by kernel_rfl
theorem g20 : Good Tryz.prog (midL namesT 0) 20 F20 := ⟨Tryz.f20, Tryz.func20, n20, c20⟩
theorem c26 : funC Tryz.prog (midL namesT 0) Tryz.f26 = some F26 := by kernel_rfl
theorem n26 : (Tryz.f26.name == "runtime.NumGoroutine") = false := by kernel_rfl
theorem g26 : Good Tryz.prog (midL namesT 0) 26 F26 := ⟨Tryz.f26, Tryz.func26, n26, c26⟩
theorem c32 : funC Tryz.prog (midL namesT 0) Tryz.f32 = some F32 := by kernel_rfl
theorem n32 : (Tryz.f32.name == "runtime.NumGoroutine") = false := by kernel_rfl
theorem g32 : Good Tryz.prog (midL namesT 0) 32 F32 := ⟨Tryz.f32, Tryz.func32, n32, c32⟩
theorem c38 : funC Tryz.prog (midL namesT 0) Tryz.f38 = some F38 := by kernel_rfl
theorem n38 : (Tryz.f38.name == "runtime.NumGoroutine") = false := by kernel_rfl
theorem g38 : Good Tryz.prog (midL namesT 0) 38 F38 := ⟨Tryz.f38, Tryz.func38, n38, c38⟩
theorem c44 : funC Tryz.prog (midL namesT 0) Tryz.f44 = some F44 := by kernel_rfl
theorem n44 : (Tryz.f44.name == "runtime.NumGoroutine") = false := by kernel_rfl
theorem g44 : Good Tryz.prog (midL namesT 0) 44 F44 := ⟨Tryz.f44, Tryz.func44, n44, c44⟩
theorem c50 : funC Tryz.prog (midL namesT 0) Tryz.f50 = some F50 := by kernel_rfl
theorem n50 : (Tryz.f50.name == "runtime.NumGoroutine") = false := by kernel_rfl
theorem g50 : Good Tryz.prog (midL namesT 0) 50 F50 := ⟨Tryz.f50, Tryz.func50, n50, c50⟩
theorem c56 : funC Tryz.prog (midL namesT 0) Tryz.f56 = some F56 := by kernel_rfl
theorem n56 : (Tryz.f56.name == "runtime.NumGoroutine") = false := by kernel_rfl
theorem g56 : Good Tryz.prog (midL namesT 0) 56 F56 := ⟨Tryz.f56, Tryz.func56, n56, c56⟩
theorem c62 : funC Tryz.prog (midL namesT 0) Tryz.f62 = some F62 := by kernel_rfl
theorem n62 : (Tryz.f62.name == "runtime.NumGoroutine") = false := by kernel_rfl
theorem g62 : Good Tryz.prog (midL namesT 0) 62 F62 := ⟨Tryz.f62, Tryz.func62, n62, c62⟩
theorem c68 : funC Tryz.prog (midL namesT 0) Tryz.f68 = some F68 := by kernel_rfl
theorem n68 : (Tryz.f68.name == "runtime.NumGoroutine") = false := by kernel_rfl
theorem g68 : Good Tryz.prog (midL namesT 0) 68 F68 := ⟨Tryz.f68, Tryz.func68, n68, c68⟩
theorem c74 : funC Tryz.prog (midL namesT 0) Tryz.f74 = some F74 := by kernel_rfl
theorem n74 : (Tryz.f74.name == "runtime.NumGoroutine") = false := by kernel_rfl
theorem g74 : Good Tryz.prog (midL namesT 0) 74 F74 := ⟨Tryz.f74, Tryz.func74, n74, c74⟩
theorem c81 : funC Tryz.prog (midL namesT 0) Tryz.f81 = some F81 := by kernel_rfl
theorem n81 : (Tryz.f81.name == "runtime.NumGoroutine") = false := by kernel_rfl
theorem g81 : Good Tryz.prog (midL namesT 0) 81 F81 := ⟨Tryz.f81, Tryz.func81, n81, c81⟩
theorem c88 : funC Tryz.prog (midL namesT 0) Tryz.f88 = some F88 := by kernel_rfl
theorem n88 : (Tryz.f88.name == "runtime.NumGoroutine") = false := by kernel_rfl
theorem g88 : Good Tryz.prog (midL namesT 0) 88 F88 := ⟨Tryz.f88, Tryz.func88, n88, c88⟩
theorem c96 : funC Tryz.prog (midL namesT 0) Tryz.f96 = some F96 := by kernel_rfl
theorem n96 : (Tryz.f96.name == "runtime.NumGoroutine") = false := by kernel_rfl
theorem g96 : Good Tryz.prog (midL namesT 0) 96 F96 := ⟨Tryz.f96, Tryz.func96, n96, c96⟩
theorem c103 : funC Tryz.prog (midL namesT 0) Tryz.f103 = some F103 := by kernel_rfl
theorem n103 : (Tryz.f103.name == "runtime.NumGoroutine") = false := by kernel_rfl
theorem g103 : Good Tryz.prog (midL namesT 0) 103 F103 := ⟨Tryz.f103, Tryz.func103, n103, c103⟩
theorem c110 : funC Tryz.prog (midL namesT 0) Tryz.f110 = some F110 := by kernel_rfl
theorem n110 : (Tryz.f110.name == "runtime.NumGoroutine") = false := by kernel_rfl
theorem g110 : Good Tryz.prog (midL namesT 0) 110 F110 := ⟨Tryz.f110, Tryz.func110, n110, c110⟩
theorem c118 : funC Tryz.prog (midL namesT 0) Tryz.f118 = some F118 := by kernel_rfl
theorem n118 : (Tryz.f118.name == "runtime.NumGoroutine") = false := by kernel_rfl
theorem g118 : Good Tryz.prog (midL namesT 0) 118 F118 := ⟨Tryz.f118, Tryz.func118, n118, c118⟩
theorem c124 : funC Tryz.prog (midL namesT 0) Tryz.f124 = some F124 := by kernel_rfl
theorem n124 : (Tryz.f124.name == "runtime.NumGoroutine") = false := by kernel_rfl
theorem g124 : Good Tryz.prog (midL namesT 0) 124 F124 := ⟨Tryz.f124, Tryz.func124, n124, c124⟩
theorem c131 : funC Tryz.prog (midL namesT 0) Tryz.f131 = some F131 := by kernel_rfl
theorem n131 : (Tryz.f131.name == "runtime.NumGoroutine") = false := by kernel_rfl
theorem g131 : Good Tryz.prog (midL namesT 0) 131 F131 := ⟨Tryz.f131, Tryz.func131, n131, c131⟩
theorem c143 : funC Tryz.prog (midL namesT 0) Tryz.f143 = some F143 := by kernel_rfl
theorem n143 : (Tryz.f143.name == "runtime.NumGoroutine") = false := by kernel_rfl
theorem g143 : Good Tryz.prog (midL namesT 0) 143 F143 := ⟨Tryz.f143, Tryz.func143, n143, c143⟩
theorem c150 : funC Tryz.prog (midL namesT 0) Tryz.f150 = some F150 := by kernel_rfl
theorem n150 : (Tryz.f150.name == "runtime.NumGoroutine") = false := by kernel_rfl
theorem g150 : Good Tryz.prog (midL namesT 0) 150 F150 := ⟨Tryz.f150, Tryz.func150, n150, c150⟩
theorem c169 : funC Tryz.prog (midL namesT 0) Tryz.f169 = some F169 := by kernel_rfl
theorem n169 : (Tryz.f169.name == "runtime.NumGoroutine") = false := by kernel_rfl
theorem g169 : Good Tryz.prog (midL namesT 0) 169 F169 := ⟨Tryz.f169, Tryz.func169, n169, c169⟩
theorem c190 : funC Tryz.prog (midL namesT 0) Tryz.f190 = some F190 := by kernel_rfl
theorem n190 : (Tryz.f190.name == "runtime.NumGoroutine") = false := by kernel_rfl
theorem g190 : Good Tryz.prog (midL namesT 0) 190 F190 := ⟨Tryz.f190, Tryz.func190, n190, c190⟩
theorem c210 : funC Tryz.prog (midL namesT 0) Tryz.f210 = some F210 := by kernel_rfl
theorem n210 : (Tryz.f210.name == "runtime.NumGoroutine") = false := by kernel_rfl
theorem g210 : Good Tryz.prog (midL namesT 0) 210 F210 := ⟨Tryz.f210, Tryz.func210, n210, c210⟩
theorem c225 : funC Tryz.prog (midL namesT 0) Tryz.f225 = some F225 := by kernel_rfl
theorem n225 : (Tryz.f225.name == "runtime.NumGoroutine") = false := by kernel_rfl
theorem g225 : Good Tryz.prog (midL namesT 0) 225 F225 := ⟨Tryz.f225, Tryz.func225, n225, c225⟩
theorem c275 : funC Tryz.prog (midL namesT 0) Tryz.f275 = some F275 := by kernel_rfl
theorem n275 : (Tryz.f275.name == "runtime.NumGoroutine") = false := by kernel_rfl
theorem g275 : Good Tryz.prog (midL namesT 0) 275 F275 := ⟨Tryz.f275, Tryz.func275, n275, c275⟩
end Go.Ae
