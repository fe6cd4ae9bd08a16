/- Each of these functions is the program's own, compiled: closed facts by the kernel. -/
import Derived.Test.YtfnbadgomacipaaGreatDoorProg
import Derived.Test.YtfnbadgomacipaaGreatDoorTb
import Derived.KernelRfl
namespace Go.Ae
open Go Go.Proofs
set_option maxRecDepth 100000
theorem c6 : funC Tryz.prog (midL namesT 0) Tryz.f6 = some F6 := by kernel_rfl
theorem n6 : (Tryz.f6.name == "runtime.NumGoroutine") = false := by kernel_rfl
theorem g6 : Good Tryz.prog (midL namesT 0) 6 F6 := ⟨Tryz.f6, Tryz.func6, n6, c6⟩
theorem c12 : funC Tryz.prog (midL namesT 0) Tryz.f12 = some F12 := by kernel_rfl
theorem n12 : (Tryz.f12.name == "runtime.NumGoroutine") = false := by kernel_rfl
theorem g12 : Good Tryz.prog (midL namesT 0) 12 F12 := ⟨Tryz.f12, Tryz.func12, n12, c12⟩
theorem c18 : funC Tryz.prog (midL namesT 0) Tryz.f18 = some F18 := by kernel_rfl
theorem n18 : (Tryz.f18.name == "runtime.NumGoroutine") = false := by kernel_rfl
theorem g18 : Good Tryz.prog (midL namesT 0) 18 F18 := ⟨Tryz.f18, Tryz.func18, n18, c18⟩
theorem c24 : funC Tryz.prog (midL namesT 0) Tryz.f24 = some F24 := by kernel_rfl
theorem n24 : (Tryz.f24.name == "runtime.NumGoroutine") = false := by kernel_rfl
theorem g24 : Good Tryz.prog (midL namesT 0) 24 F24 := ⟨Tryz.f24, Tryz.func24, n24, c24⟩
theorem c30 : funC Tryz.prog (midL namesT 0) Tryz.f30 = some F30 := by kernel_rfl
theorem n30 : (Tryz.f30.name == "runtime.NumGoroutine") = false := by kernel_rfl
theorem g30 : Good Tryz.prog (midL namesT 0) 30 F30 := ⟨Tryz.f30, Tryz.func30, n30, c30⟩
theorem c36 : funC Tryz.prog (midL namesT 0) Tryz.f36 = some F36 := by kernel_rfl
theorem n36 : (Tryz.f36.name == "runtime.NumGoroutine") = false := by kernel_rfl
theorem g36 : Good Tryz.prog (midL namesT 0) 36 F36 := ⟨Tryz.f36, Tryz.func36, n36, c36⟩
theorem c42 : funC Tryz.prog (midL namesT 0) Tryz.f42 = some F42 := by kernel_rfl
theorem n42 : (Tryz.f42.name == "runtime.NumGoroutine") = false := by kernel_rfl
theorem g42 : Good Tryz.prog (midL namesT 0) 42 F42 := ⟨Tryz.f42, Tryz.func42, n42, c42⟩
theorem c48 : funC Tryz.prog (midL namesT 0) Tryz.f48 = some F48 := by kernel_rfl
theorem n48 : (Tryz.f48.name == "runtime.NumGoroutine") = false := by kernel_rfl
theorem g48 : Good Tryz.prog (midL namesT 0) 48 F48 := ⟨Tryz.f48, Tryz.func48, n48, c48⟩
theorem c54 : funC Tryz.prog (midL namesT 0) Tryz.f54 = some F54 := by kernel_rfl
theorem n54 : (Tryz.f54.name == "runtime.NumGoroutine") = false := by kernel_rfl
theorem g54 : Good Tryz.prog (midL namesT 0) 54 F54 := ⟨Tryz.f54, Tryz.func54, n54, c54⟩
theorem c60 : funC Tryz.prog (midL namesT 0) Tryz.f60 = some F60 := by kernel_rfl
theorem n60 : (Tryz.f60.name == "runtime.NumGoroutine") = false := by kernel_rfl
theorem g60 : Good Tryz.prog (midL namesT 0) 60 F60 := ⟨Tryz.f60, Tryz.func60, n60, c60⟩
theorem c66 : funC Tryz.prog (midL namesT 0) Tryz.f66 = some F66 := by kernel_rfl
theorem n66 : (Tryz.f66.name == "runtime.NumGoroutine") = false := by kernel_rfl
theorem g66 : Good Tryz.prog (midL namesT 0) 66 F66 := ⟨Tryz.f66, Tryz.func66, n66, c66⟩
theorem c72 : funC Tryz.prog (midL namesT 0) Tryz.f72 = some F72 := by kernel_rfl
theorem n72 : (Tryz.f72.name == "runtime.NumGoroutine") = false := by kernel_rfl
theorem g72 : Good Tryz.prog (midL namesT 0) 72 F72 := ⟨Tryz.f72, Tryz.func72, n72, c72⟩
theorem c79 : funC Tryz.prog (midL namesT 0) Tryz.f79 = some F79 := by kernel_rfl
theorem n79 : (Tryz.f79.name == "runtime.NumGoroutine") = false := by kernel_rfl
theorem g79 : Good Tryz.prog (midL namesT 0) 79 F79 := ⟨Tryz.f79, Tryz.func79, n79, c79⟩
theorem c85 : funC Tryz.prog (midL namesT 0) Tryz.f85 = some F85 := by kernel_rfl
theorem n85 : (Tryz.f85.name == "runtime.NumGoroutine") = false := by kernel_rfl
theorem g85 : Good Tryz.prog (midL namesT 0) 85 F85 := ⟨Tryz.f85, Tryz.func85, n85, c85⟩
theorem c92 : funC Tryz.prog (midL namesT 0) Tryz.f92 = some F92 := by kernel_rfl
theorem n92 : (Tryz.f92.name == "runtime.NumGoroutine") = false := by kernel_rfl
theorem g92 : Good Tryz.prog (midL namesT 0) 92 F92 := ⟨Tryz.f92, Tryz.func92, n92, c92⟩
theorem c101 : funC Tryz.prog (midL namesT 0) Tryz.f101 = some F101 := by kernel_rfl
theorem n101 : (Tryz.f101.name == "runtime.NumGoroutine") = false := by kernel_rfl
theorem g101 : Good Tryz.prog (midL namesT 0) 101 F101 := ⟨Tryz.f101, Tryz.func101, n101, c101⟩
theorem c108 : funC Tryz.prog (midL namesT 0) Tryz.f108 = some F108 := by kernel_rfl
theorem n108 : (Tryz.f108.name == "runtime.NumGoroutine") = false := by kernel_rfl
theorem g108 : Good Tryz.prog (midL namesT 0) 108 F108 := ⟨Tryz.f108, Tryz.func108, n108, c108⟩
theorem c114 : funC Tryz.prog (midL namesT 0) Tryz.f114 = some F114 := by kernel_rfl
theorem n114 : (Tryz.f114.name == "runtime.NumGoroutine") = false := by kernel_rfl
theorem g114 : Good Tryz.prog (midL namesT 0) 114 F114 := ⟨Tryz.f114, Tryz.func114, n114, c114⟩
theorem c122 : funC Tryz.prog (midL namesT 0) Tryz.f122 = some F122 := by kernel_rfl
theorem n122 : (Tryz.f122.name == "runtime.NumGoroutine") = false := by kernel_rfl
theorem g122 : Good Tryz.prog (midL namesT 0) 122 F122 := ⟨Tryz.f122, Tryz.func122, n122, c122⟩
theorem c128 : funC Tryz.prog (midL namesT 0) Tryz.f128 = some F128 := by kernel_rfl
theorem n128 : (Tryz.f128.name == "runtime.NumGoroutine") = false := by kernel_rfl
theorem g128 : Good Tryz.prog (midL namesT 0) 128 F128 := ⟨Tryz.f128, Tryz.func128, n128, c128⟩
theorem c140 : funC Tryz.prog (midL namesT 0) Tryz.f140 = some F140 := by kernel_rfl
theorem n140 : (Tryz.f140.name == "runtime.NumGoroutine") = false := by kernel_rfl
theorem g140 : Good Tryz.prog (midL namesT 0) 140 F140 := ⟨Tryz.f140, Tryz.func140, n140, c140⟩
theorem c148 : funC Tryz.prog (midL namesT 0) Tryz.f148 = some F148 := by kernel_rfl
theorem n148 : (Tryz.f148.name == "runtime.NumGoroutine") = false := by kernel_rfl
theorem g148 : Good Tryz.prog (midL namesT 0) 148 F148 := ⟨Tryz.f148, Tryz.func148, n148, c148⟩
theorem c167 : funC Tryz.prog (midL namesT 0) Tryz.f167 = some F167 := by kernel_rfl
theorem n167 : (Tryz.f167.name == "runtime.NumGoroutine") = false := by kernel_rfl
theorem g167 : Good Tryz.prog (midL namesT 0) 167 F167 := ⟨Tryz.f167, Tryz.func167, n167, c167⟩
theorem c188 : funC Tryz.prog (midL namesT 0) Tryz.f188 = some F188 := by kernel_rfl
theorem n188 : (Tryz.f188.name == "runtime.NumGoroutine") = false := by kernel_rfl
theorem g188 : Good Tryz.prog (midL namesT 0) 188 F188 := ⟨Tryz.f188, Tryz.func188, n188, c188⟩
theorem c200 : funC Tryz.prog (midL namesT 0) Tryz.f200 = some F200 := by kernel_rfl
theorem n200 : (Tryz.f200.name == "runtime.NumGoroutine") = false := by kernel_rfl
theorem g200 : Good Tryz.prog (midL namesT 0) 200 F200 := ⟨Tryz.f200, Tryz.func200, n200, c200⟩
theorem c218 : funC Tryz.prog (midL namesT 0) Tryz.f218 = some F218 := by kernel_rfl
theorem n218 : (Tryz.f218.name == "runtime.NumGoroutine") = false := by kernel_rfl
theorem g218 : Good Tryz.prog (midL namesT 0) 218 F218 := ⟨Tryz.f218, Tryz.func218, n218, c218⟩
theorem c252 : funC Tryz.prog (midL namesT 0) Tryz.f252 = some F252 := by kernel_rfl
theorem n252 : (Tryz.f252.name == "runtime.NumGoroutine") = false := by kernel_rfl
theorem g252 : Good Tryz.prog (midL namesT 0) 252 F252 := ⟨Tryz.f252, Tryz.func252, n252, c252⟩
theorem c385 : funC Tryz.prog (midL namesT 0) Tryz.f385 = some F385 := by kernel_rfl
theorem n385 : (Tryz.f385.name == "runtime.NumGoroutine") = false := by kernel_rfl
theorem g385 : Good Tryz.prog (midL namesT 0) 385 F385 := ⟨Tryz.f385, Tryz.func385, n385, c385⟩
end Go.Ae
