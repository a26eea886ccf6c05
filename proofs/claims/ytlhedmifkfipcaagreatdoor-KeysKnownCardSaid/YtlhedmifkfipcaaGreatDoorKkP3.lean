/- A piece of a run. -/
import Derived.Test.YtlhedmifkfipcaaGreatDoorKkSt
import Derived.KernelRfl
namespace Go.Proofs.YtlhedmifkfipcaaGreatDoor
open Go Go.Abs
noncomputable section
set_option maxRecDepth 1000000 in
theorem kkR3 : cut Tryz.prog (kkEv.with kkKn6) [1, 3, 4, 5, 10, 15, 16, 22, 23, 24, 25, 30, 175, 263, 302, 303, 304, 2042, 2107, 2108, 2109, 2112, 2115, 2116, 2118, 2119, 2132, 2136, 2137, 2138, 2139, 2140] (run Tryz.prog (kkEv.with kkKn6) 11354 kkS2) = .next kkS3 := by kernel_rfl
set_option maxRecDepth 1000000 in
theorem kkK3 : cutL Tryz.prog (kkEv.with kkKn6) [1, 3, 4, 5, 10, 15, 16, 22, 23, 24, 25, 30, 175, 263, 302, 303, 304, 2042, 2107, 2108, 2109, 2112, 2115, 2116, 2118, 2119, 2132, 2136, 2137, 2138, 2139, 2140] (forkS Tryz.prog (kkEv.with kkKn6) kkS3) = some [kkS3b0, kkS3b1] := by kernel_rfl
set_option maxRecDepth 1000000 in
theorem kkR3b0 : cut Tryz.prog (kkEv.with kkKn6) [1, 3, 4, 5, 10, 15, 16, 22, 23, 24, 25, 30, 175, 263, 302, 303, 304, 2042, 2107, 2108, 2109, 2112, 2115, 2116, 2118, 2119, 2132, 2136, 2144] (run Tryz.prog (kkEv.with kkKn6) 111 kkS3b0) = .next kkS3m := by kernel_rfl
set_option maxRecDepth 1000000 in
theorem kkR3b1 : cut Tryz.prog (kkEv.with kkKn6) [1, 3, 4, 5, 10, 15, 16, 22, 23, 24, 25, 30, 175, 263, 302, 303, 304, 2042, 2107, 2108, 2109, 2112, 2115, 2116, 2118, 2119, 2132, 2136, 2144] (run Tryz.prog (kkEv.with kkKn6) 153 kkS3b1) = .next kkS3m := by kernel_rfl
end
end Go.Proofs.YtlhedmifkfipcaaGreatDoor
