/-
  The program's functions with the orders of their drawn regions, each held against the program's own.
-/
import Derived.KernelRfl
import Derived.Test.YtmafmfealhcloaaGreatDoorMachD
import Derived.Test.YtmafmfealhcloaaGreatDoorBase
namespace Go.E
open Go Go.W Go.X
set_option maxRecDepth 100000
noncomputable def X2 : FX := ⟨Go.Proofs.Tryz.f2, []⟩
theorem xok2 : okO T0 X2 = true := by kernel_rfl
noncomputable def X3 : FX := ⟨Go.Proofs.Tryz.f3, []⟩
theorem xok3 : okO T0 X3 = true := by kernel_rfl
noncomputable def X4 : FX := ⟨Go.Proofs.Tryz.f4, []⟩
theorem xok4 : okO T0 X4 = true := by kernel_rfl
noncomputable def X5 : FX := ⟨Go.Proofs.Tryz.f5, []⟩
theorem xok5 : okO T0 X5 = true := by kernel_rfl
noncomputable def X6 : FX := ⟨Go.Proofs.Tryz.f6, []⟩
theorem xok6 : okO T0 X6 = true := by kernel_rfl
noncomputable def X7 : FX := ⟨Go.Proofs.Tryz.f7, [(17, (.step 0 true (.step 1 true (.step 2 true (.step 3 true (.step 4 true (.step 5 true (.step 6 true (.step 8 true (.both (.step 7 false (.step 9 false (.step 10 true .done))) (.step 9 false (.step 7 false (.step 10 true .done))))))))))))), (27, (.step 0 true (.step 3 true (.step 4 true (.step 5 true (.step 6 true (.step 1 true (.step 2 true (.step 7 true .done))))))))), (34, (.step 0 true (.step 3 true (.step 4 true (.step 5 true (.step 6 true (.step 1 true (.step 2 true (.step 7 true .done))))))))), (41, (.step 0 true (.step 3 true (.step 4 true (.step 5 true (.step 6 true (.step 1 true (.step 2 true (.step 7 true .done)))))))))]⟩
theorem xok7 : okO T0 X7 = true := by kernel_rfl
noncomputable def X8 : FX := ⟨Go.Proofs.Tryz.f8, []⟩
theorem xok8 : okO T0 X8 = true := by kernel_rfl
noncomputable def X9 : FX := ⟨Go.Proofs.Tryz.f9, []⟩
theorem xok9 : okO T0 X9 = true := by kernel_rfl
noncomputable def X10 : FX := ⟨Go.Proofs.Tryz.f10, []⟩
theorem xok10 : okO T0 X10 = true := by kernel_rfl
noncomputable def X11 : FX := ⟨Go.Proofs.Tryz.f11, [(22, (.step 0 true (.step 1 true (.step 2 true (.step 4 true (.step 6 true (.step 7 true (.step 8 true (.step 3 false (.step 5 false (.step 9 false (.step 10 true .done))))))))))))]⟩
theorem xok11 : okO T0 X11 = true := by kernel_rfl
noncomputable def X12 : FX := ⟨Go.Proofs.Tryz.f12, []⟩
theorem xok12 : okO T0 X12 = true := by kernel_rfl
noncomputable def X13 : FX := ⟨Go.Proofs.Tryz.f13, []⟩
theorem xok13 : okO T0 X13 = true := by kernel_rfl
noncomputable def X14 : FX := ⟨Go.Proofs.Tryz.f14, [(5, (.step 0 true (.step 3 true (.step 1 false (.both (.step 2 false (.step 4 false (.step 5 true (.step 6 true (.step 7 true .done))))) (.step 4 false (.step 5 true (.step 2 false (.step 6 true (.step 7 true .done))))))))))]⟩
theorem xok14 : okO T0 X14 = true := by kernel_rfl
noncomputable def X15 : FX := ⟨Go.Proofs.Tryz.f15, []⟩
theorem xok15 : okO T0 X15 = true := by kernel_rfl
noncomputable def X16 : FX := ⟨Go.Proofs.Tryz.f16, []⟩
theorem xok16 : okO T0 X16 = true := by kernel_rfl
noncomputable def X17 : FX := ⟨Go.Proofs.Tryz.f17, []⟩
theorem xok17 : okO T0 X17 = true := by kernel_rfl
noncomputable def X18 : FX := ⟨Go.Proofs.Tryz.f18, [(3, (.step 0 true (.step 1 true (.step 2 true (.step 3 true (.step 4 true (.step 5 true (.step 6 true (.step 7 true (.step 8 true (.step 9 true (.step 10 true (.step 11 true (.step 12 true (.step 13 true (.step 14 true (.step 16 true (.step 17 true (.step 18 true (.step 19 true (.step 20 true (.step 21 true (.step 22 true (.step 23 true (.step 24 true (.step 26 true (.step 27 true (.step 28 true (.step 29 true (.step 30 true (.step 32 true (.step 33 true (.step 34 true (.step 35 true (.step 37 true (.step 38 true (.step 39 true (.step 40 true (.pool [42] (.step 15 true (.step 25 true (.step 31 true (.step 36 true (.step 41 true .done))))) (.step 43 false .done)))))))))))))))))))))))))))))))))))))))), (5, (.step 0 true (.step 1 true (.step 2 true (.step 3 true (.step 4 true (.step 5 true (.step 6 true (.step 7 true (.step 9 true (.step 8 true (.step 10 false (.step 11 true (.step 12 false .done))))))))))))))]⟩
theorem xok18 : okO T0 X18 = true := by kernel_rfl
noncomputable def X19 : FX := ⟨Go.Proofs.Tryz.f19, [(6, (.step 0 true (.step 1 true (.step 2 true (.step 3 true (.step 4 true (.step 5 true (.step 6 true (.step 7 true (.step 8 true .done))))))))))]⟩
theorem xok19 : okO T0 X19 = true := by kernel_rfl
noncomputable def X20 : FX := ⟨Go.Proofs.Tryz.f20, []⟩
theorem xok20 : okO T0 X20 = true := by kernel_rfl
noncomputable def X21 : FX := ⟨Go.Proofs.Tryz.f21, []⟩
theorem xok21 : okO T0 X21 = true := by kernel_rfl
noncomputable def X22 : FX := ⟨Go.Proofs.Tryz.f22, [(3, (.step 0 true (.step 1 true (.step 3 true (.step 4 true (.step 5 true (.step 6 true (.both (.step 2 false (.step 7 false (.step 8 false (.step 9 true (.step 10 true .done))))) (.step 7 false (.both (.step 2 false (.step 8 false (.step 9 true (.step 10 true .done)))) (.step 8 false (.step 2 false (.step 9 true (.step 10 true .done))))))))))))))]⟩
theorem xok22 : okO T0 X22 = true := by kernel_rfl
noncomputable def X23 : FX := ⟨Go.Proofs.Tryz.f23, []⟩
theorem xok23 : okO T0 X23 = true := by kernel_rfl
noncomputable def X24 : FX := ⟨Go.Proofs.Tryz.f24, []⟩
theorem xok24 : okO T0 X24 = true := by kernel_rfl
noncomputable def X25 : FX := ⟨Go.Proofs.Tryz.f25, []⟩
theorem xok25 : okO T0 X25 = true := by kernel_rfl
noncomputable def X26 : FX := ⟨Go.Proofs.Tryz.f26, [(6, (.step 0 true (.step 1 true (.step 2 true (.step 3 true (.step 4 true (.step 5 true (.step 6 true (.step 7 true (.step 8 true (.step 9 true (.step 10 true (.step 11 true (.step 12 true (.step 13 true (.step 14 true (.step 15 true (.step 16 true (.step 17 true (.step 18 true (.step 19 true (.step 20 true (.step 21 true (.step 22 true (.step 23 true (.step 24 true (.step 25 true (.step 26 true (.step 27 true (.step 28 true (.step 29 true (.step 30 true (.step 31 true (.step 32 true (.step 33 true (.step 34 true (.step 35 false (.step 36 true (.step 37 true .done)))))))))))))))))))))))))))))))))))))))]⟩
theorem xok26 : okO T0 X26 = true := by kernel_rfl
noncomputable def X27 : FX := ⟨Go.Proofs.Tryz.f27, []⟩
theorem xok27 : okO T0 X27 = true := by kernel_rfl
noncomputable def X28 : FX := ⟨Go.Proofs.Tryz.f28, []⟩
theorem xok28 : okO T0 X28 = true := by kernel_rfl
noncomputable def X29 : FX := ⟨Go.Proofs.Tryz.f29, []⟩
theorem xok29 : okO T0 X29 = true := by kernel_rfl
noncomputable def X30 : FX := ⟨Go.Proofs.Tryz.f30, []⟩
theorem xok30 : okO T0 X30 = true := by kernel_rfl
noncomputable def X31 : FX := ⟨Go.Proofs.Tryz.f31, []⟩
theorem xok31 : okO T0 X31 = true := by kernel_rfl
noncomputable def X32 : FX := ⟨Go.Proofs.Tryz.f32, []⟩
theorem xok32 : okO T0 X32 = true := by kernel_rfl
noncomputable def X33 : FX := ⟨Go.Proofs.Tryz.f33, []⟩
theorem xok33 : okO T0 X33 = true := by kernel_rfl
noncomputable def X34 : FX := ⟨Go.Proofs.Tryz.f34, []⟩
theorem xok34 : okO T0 X34 = true := by kernel_rfl
noncomputable def X35 : FX := ⟨Go.Proofs.Tryz.f35, []⟩
theorem xok35 : okO T0 X35 = true := by kernel_rfl
noncomputable def X36 : FX := ⟨Go.Proofs.Tryz.f36, []⟩
theorem xok36 : okO T0 X36 = true := by kernel_rfl
noncomputable def X37 : FX := ⟨Go.Proofs.Tryz.f37, []⟩
theorem xok37 : okO T0 X37 = true := by kernel_rfl
noncomputable def X38 : FX := ⟨Go.Proofs.Tryz.f38, []⟩
theorem xok38 : okO T0 X38 = true := by kernel_rfl
noncomputable def X39 : FX := ⟨Go.Proofs.Tryz.f39, []⟩
theorem xok39 : okO T0 X39 = true := by kernel_rfl
noncomputable def X40 : FX := ⟨Go.Proofs.Tryz.f40, []⟩
theorem xok40 : okO T0 X40 = true := by kernel_rfl
noncomputable def X41 : FX := ⟨Go.Proofs.Tryz.f41, []⟩
theorem xok41 : okO T0 X41 = true := by kernel_rfl
noncomputable def X42 : FX := ⟨Go.Proofs.Tryz.f42, []⟩
theorem xok42 : okO T0 X42 = true := by kernel_rfl
noncomputable def X43 : FX := ⟨Go.Proofs.Tryz.f43, []⟩
theorem xok43 : okO T0 X43 = true := by kernel_rfl
noncomputable def X44 : FX := ⟨Go.Proofs.Tryz.f44, []⟩
theorem xok44 : okO T0 X44 = true := by kernel_rfl
noncomputable def X45 : FX := ⟨Go.Proofs.Tryz.f45, []⟩
theorem xok45 : okO T0 X45 = true := by kernel_rfl
noncomputable def X46 : FX := ⟨Go.Proofs.Tryz.f46, [(5, (.step 0 true (.step 1 true (.step 2 true (.step 3 true (.step 4 true (.step 5 true (.step 6 true (.step 7 true (.step 8 true (.step 9 true (.step 10 true (.step 11 true (.step 12 true (.step 13 true (.step 14 true (.step 15 true (.step 16 true (.step 17 true (.step 18 true (.step 19 false (.step 20 true (.step 21 true .done)))))))))))))))))))))))]⟩
theorem xok46 : okO T0 X46 = true := by kernel_rfl
noncomputable def X47 : FX := ⟨Go.Proofs.Tryz.f47, []⟩
theorem xok47 : okO T0 X47 = true := by kernel_rfl
noncomputable def X48 : FX := ⟨Go.Proofs.Tryz.f48, [(3, (.step 0 true (.step 1 true (.step 2 true (.step 3 true (.step 6 true (.step 7 true (.step 8 true (.step 9 true (.step 4 true (.step 5 true (.step 10 true (.step 11 false (.step 12 true .done))))))))))))))]⟩
theorem xok48 : okO T0 X48 = true := by kernel_rfl
noncomputable def X49 : FX := ⟨Go.Proofs.Tryz.f49, []⟩
theorem xok49 : okO T0 X49 = true := by kernel_rfl
noncomputable def X50 : FX := ⟨Go.Proofs.Tryz.f50, []⟩
theorem xok50 : okO T0 X50 = true := by kernel_rfl
noncomputable def X51 : FX := ⟨Go.Proofs.Tryz.f51, [(1, (.step 0 true (.step 1 true (.step 3 true (.step 4 true (.step 6 true (.step 7 true (.step 2 true (.step 5 true (.step 8 false (.step 9 true (.step 10 false .done))))))))))))]⟩
theorem xok51 : okO T0 X51 = true := by kernel_rfl
noncomputable def X52 : FX := ⟨Go.Proofs.Tryz.f52, [(3, (.step 0 true (.step 1 true (.step 2 true (.step 3 true (.step 4 true (.step 5 true (.step 6 true .done))))))))]⟩
theorem xok52 : okO T0 X52 = true := by kernel_rfl
noncomputable def X53 : FX := ⟨Go.Proofs.Tryz.f53, []⟩
theorem xok53 : okO T0 X53 = true := by kernel_rfl
noncomputable def X54 : FX := ⟨Go.Proofs.Tryz.f54, []⟩
theorem xok54 : okO T0 X54 = true := by kernel_rfl
noncomputable def X55 : FX := ⟨Go.Proofs.Tryz.f55, []⟩
theorem xok55 : okO T0 X55 = true := by kernel_rfl
noncomputable def X56 : FX := ⟨Go.Proofs.Tryz.f56, []⟩
theorem xok56 : okO T0 X56 = true := by kernel_rfl
noncomputable def X57 : FX := ⟨Go.Proofs.Tryz.f57, []⟩
theorem xok57 : okO T0 X57 = true := by kernel_rfl
noncomputable def X58 : FX := ⟨Go.Proofs.Tryz.f58, []⟩
theorem xok58 : okO T0 X58 = true := by kernel_rfl
noncomputable def X59 : FX := ⟨Go.Proofs.Tryz.f59, []⟩
theorem xok59 : okO T0 X59 = true := by kernel_rfl
noncomputable def X60 : FX := ⟨Go.Proofs.Tryz.f60, [(9, (.step 0 true (.step 1 true (.step 2 true (.step 3 true (.step 4 true (.step 5 true (.step 6 true (.step 7 false (.step 8 true .done))))))))))]⟩
theorem xok60 : okO T0 X60 = true := by kernel_rfl
noncomputable def X61 : FX := ⟨Go.Proofs.Tryz.f61, []⟩
theorem xok61 : okO T0 X61 = true := by kernel_rfl
noncomputable def X62 : FX := ⟨Go.Proofs.Tryz.f62, []⟩
theorem xok62 : okO T0 X62 = true := by kernel_rfl
noncomputable def X63 : FX := ⟨Go.Proofs.Tryz.f63, []⟩
theorem xok63 : okO T0 X63 = true := by kernel_rfl
noncomputable def X64 : FX := ⟨Go.Proofs.Tryz.f64, []⟩
theorem xok64 : okO T0 X64 = true := by kernel_rfl
noncomputable def X65 : FX := ⟨Go.Proofs.Tryz.f65, []⟩
theorem xok65 : okO T0 X65 = true := by kernel_rfl
noncomputable def X66 : FX := ⟨Go.Proofs.Tryz.f66, []⟩
theorem xok66 : okO T0 X66 = true := by kernel_rfl
noncomputable def X67 : FX := ⟨Go.Proofs.Tryz.f67, []⟩
theorem xok67 : okO T0 X67 = true := by kernel_rfl
noncomputable def X68 : FX := ⟨Go.Proofs.Tryz.f68, []⟩
theorem xok68 : okO T0 X68 = true := by kernel_rfl
noncomputable def X69 : FX := ⟨Go.Proofs.Tryz.f69, []⟩
theorem xok69 : okO T0 X69 = true := by kernel_rfl
noncomputable def X70 : FX := ⟨Go.Proofs.Tryz.f70, [(2, (.step 0 true (.step 1 true (.step 2 true (.step 3 true (.step 4 true (.step 5 true (.step 6 true (.step 7 true (.step 8 true (.step 9 true (.step 10 true (.step 11 true (.step 12 false .done)))))))))))))), (10, (.step 0 true (.step 1 true (.step 2 true (.step 3 true (.step 4 true (.step 5 true (.step 6 true (.step 8 true (.step 9 true (.step 7 true (.step 10 true (.step 11 true (.step 12 true (.step 13 true (.step 14 true (.step 15 false .done))))))))))))))))), (12, (.step 0 true (.step 1 true (.step 2 true (.step 3 true (.step 4 true (.step 5 true (.step 6 true (.step 7 false .done)))))))))]⟩
theorem xok70 : okO T0 X70 = true := by kernel_rfl
noncomputable def X71 : FX := ⟨Go.Proofs.Tryz.f71, [(2, (.step 0 true (.step 1 true (.step 2 true (.step 3 true (.step 4 true (.step 5 true (.step 6 true (.step 7 true (.step 8 true (.step 9 true (.step 10 true (.step 11 true (.step 12 false .done))))))))))))))]⟩
theorem xok71 : okO T0 X71 = true := by kernel_rfl
noncomputable def X72 : FX := ⟨Go.Proofs.Tryz.f72, []⟩
theorem xok72 : okO T0 X72 = true := by kernel_rfl
noncomputable def X73 : FX := ⟨Go.Proofs.Tryz.f73, [(4, (.step 0 true (.step 1 true (.step 2 true (.step 3 true (.step 4 true (.step 5 true (.step 6 true (.step 7 false .done)))))))))]⟩
theorem xok73 : okO T0 X73 = true := by kernel_rfl
noncomputable def X74 : FX := ⟨Go.Proofs.Tryz.f74, []⟩
theorem xok74 : okO T0 X74 = true := by kernel_rfl
noncomputable def X75 : FX := ⟨Go.Proofs.Tryz.f75, []⟩
theorem xok75 : okO T0 X75 = true := by kernel_rfl
noncomputable def X77 : FX := ⟨Go.Proofs.Tryz.f77, []⟩
theorem xok77 : okO T0 X77 = true := by kernel_rfl
noncomputable def X78 : FX := ⟨Go.Proofs.Tryz.f78, []⟩
theorem xok78 : okO T0 X78 = true := by kernel_rfl
noncomputable def X79 : FX := ⟨Go.Proofs.Tryz.f79, []⟩
theorem xok79 : okO T0 X79 = true := by kernel_rfl
noncomputable def X80 : FX := ⟨Go.Proofs.Tryz.f80, []⟩
theorem xok80 : okO T0 X80 = true := by kernel_rfl
noncomputable def X81 : FX := ⟨Go.Proofs.Tryz.f81, []⟩
theorem xok81 : okO T0 X81 = true := by kernel_rfl
noncomputable def X82 : FX := ⟨Go.Proofs.Tryz.f82, []⟩
theorem xok82 : okO T0 X82 = true := by kernel_rfl
noncomputable def X83 : FX := ⟨Go.Proofs.Tryz.f83, []⟩
theorem xok83 : okO T0 X83 = true := by kernel_rfl
noncomputable def X84 : FX := ⟨Go.Proofs.Tryz.f84, []⟩
theorem xok84 : okO T0 X84 = true := by kernel_rfl
noncomputable def X85 : FX := ⟨Go.Proofs.Tryz.f85, [(5, (.step 0 true (.step 1 true (.step 2 true (.step 3 true (.step 4 true (.step 6 true (.step 7 true (.step 5 true (.step 8 true (.step 9 true (.step 10 false (.step 11 false (.step 12 true .done))))))))))))))]⟩
theorem xok85 : okO T0 X85 = true := by kernel_rfl
noncomputable def X86 : FX := ⟨Go.Proofs.Tryz.f86, []⟩
theorem xok86 : okO T0 X86 = true := by kernel_rfl
noncomputable def X87 : FX := ⟨Go.Proofs.Tryz.f87, []⟩
theorem xok87 : okO T0 X87 = true := by kernel_rfl
noncomputable def X88 : FX := ⟨Go.Proofs.Tryz.f88, []⟩
theorem xok88 : okO T0 X88 = true := by kernel_rfl
noncomputable def X89 : FX := ⟨Go.Proofs.Tryz.f89, []⟩
theorem xok89 : okO T0 X89 = true := by kernel_rfl
noncomputable def X90 : FX := ⟨Go.Proofs.Tryz.f90, [(1, (.step 0 true (.step 1 true (.step 2 true (.step 3 true (.step 5 true (.step 6 true (.step 7 true (.step 8 true (.step 10 true (.step 11 true (.step 12 true (.step 13 true (.step 14 true (.step 15 true (.step 16 true (.step 17 true (.pool [18, 19, 20, 21] (.step 4 true (.step 9 true .done)) (.step 22 true (.step 23 true (.step 24 true (.step 25 false .done)))))))))))))))))))))), (5, (.step 0 true (.step 1 true (.step 2 true (.step 3 true (.step 4 true (.step 5 true (.step 6 true (.step 7 true (.step 8 true (.step 9 true (.step 10 true (.step 11 true (.step 12 true (.step 13 true (.step 14 true (.step 15 true (.step 16 true (.step 17 true (.step 18 true .done))))))))))))))))))))]⟩
theorem xok90 : okO T0 X90 = true := by kernel_rfl
noncomputable def X91 : FX := ⟨Go.Proofs.Tryz.f91, []⟩
theorem xok91 : okO T0 X91 = true := by kernel_rfl
noncomputable def X92 : FX := ⟨Go.Proofs.Tryz.f92, [(1, (.step 0 true (.step 1 true (.step 3 true (.step 4 true (.step 2 true (.step 5 false .done)))))))]⟩
theorem xok92 : okO T0 X92 = true := by kernel_rfl
noncomputable def X93 : FX := ⟨Go.Proofs.Tryz.f93, []⟩
theorem xok93 : okO T0 X93 = true := by kernel_rfl
noncomputable def X94 : FX := ⟨Go.Proofs.Tryz.f94, []⟩
theorem xok94 : okO T0 X94 = true := by kernel_rfl
noncomputable def X95 : FX := ⟨Go.Proofs.Tryz.f95, []⟩
theorem xok95 : okO T0 X95 = true := by kernel_rfl
noncomputable def X96 : FX := ⟨Go.Proofs.Tryz.f96, []⟩
theorem xok96 : okO T0 X96 = true := by kernel_rfl
noncomputable def X97 : FX := ⟨Go.Proofs.Tryz.f97, []⟩
theorem xok97 : okO T0 X97 = true := by kernel_rfl
noncomputable def X98 : FX := ⟨Go.Proofs.Tryz.f98, []⟩
theorem xok98 : okO T0 X98 = true := by kernel_rfl
noncomputable def X99 : FX := ⟨Go.Proofs.Tryz.f99, []⟩
theorem xok99 : okO T0 X99 = true := by kernel_rfl
noncomputable def X100 : FX := ⟨Go.Proofs.Tryz.f100, [(1, (.step 0 true (.step 1 true (.step 2 true (.step 3 true (.step 4 true (.step 5 true (.step 6 true (.step 7 true (.step 8 true (.step 9 true (.step 10 true (.step 11 true (.step 12 true (.step 13 true (.step 14 true (.step 15 true (.step 16 false .done))))))))))))))))))]⟩
theorem xok100 : okO T0 X100 = true := by kernel_rfl
noncomputable def X101 : FX := ⟨Go.Proofs.Tryz.f101, [(12, (.step 0 true (.step 1 true (.step 2 true (.step 3 true (.step 4 true (.step 5 true (.step 6 true (.step 7 true (.step 8 true (.step 9 true (.step 10 true (.step 11 true (.step 12 true (.step 13 true (.step 14 true (.step 15 false .done)))))))))))))))))]⟩
theorem xok101 : okO T0 X101 = true := by kernel_rfl
noncomputable def X102 : FX := ⟨Go.Proofs.Tryz.f102, [(5, (.step 0 true (.step 1 true (.step 2 true (.step 3 true (.step 4 true (.step 5 true (.step 6 true (.step 7 true (.step 8 true (.step 9 true (.step 10 true (.step 11 true (.step 12 true (.step 13 true (.step 14 true (.step 15 true (.step 16 true (.step 17 true (.step 18 true (.step 19 true (.step 20 true (.step 21 true (.step 22 true (.step 23 true (.step 24 false .done))))))))))))))))))))))))))]⟩
theorem xok102 : okO T0 X102 = true := by kernel_rfl
noncomputable def X103 : FX := ⟨Go.Proofs.Tryz.f103, []⟩
theorem xok103 : okO T0 X103 = true := by kernel_rfl
noncomputable def X104 : FX := ⟨Go.Proofs.Tryz.f104, [(9, (.step 0 true (.step 1 true (.step 2 true (.step 3 false (.step 4 false .done))))))]⟩
theorem xok104 : okO T0 X104 = true := by kernel_rfl
noncomputable def X105 : FX := ⟨Go.Proofs.Tryz.f105, [(5, (.step 0 true (.step 1 true (.step 2 true (.step 3 true (.step 4 true (.step 5 true (.step 6 true (.step 7 true (.step 8 true (.step 9 true (.step 10 true (.step 11 false .done)))))))))))))]⟩
theorem xok105 : okO T0 X105 = true := by kernel_rfl
noncomputable def X106 : FX := ⟨Go.Proofs.Tryz.f106, []⟩
theorem xok106 : okO T0 X106 = true := by kernel_rfl
noncomputable def X107 : FX := ⟨Go.Proofs.Tryz.f107, []⟩
theorem xok107 : okO T0 X107 = true := by kernel_rfl
noncomputable def X108 : FX := ⟨Go.Proofs.Tryz.f108, []⟩
theorem xok108 : okO T0 X108 = true := by kernel_rfl
noncomputable def X109 : FX := ⟨Go.Proofs.Tryz.f109, []⟩
theorem xok109 : okO T0 X109 = true := by kernel_rfl
noncomputable def X110 : FX := ⟨Go.Proofs.Tryz.f110, []⟩
theorem xok110 : okO T0 X110 = true := by kernel_rfl
noncomputable def X112 : FX := ⟨Go.Proofs.Tryz.f112, []⟩
theorem xok112 : okO T0 X112 = true := by kernel_rfl
noncomputable def X113 : FX := ⟨Go.Proofs.Tryz.f113, [(8, (.step 0 true (.step 1 true (.step 2 true (.step 3 true (.step 4 true (.step 5 true (.step 6 true (.step 8 true (.both (.step 7 false (.step 9 false (.step 10 true (.step 11 true .done)))) (.step 9 false (.step 7 false (.step 10 true (.step 11 true .done)))))))))))))), (16, (.step 0 true (.step 1 true (.step 2 true (.step 3 true (.step 4 true (.step 5 true (.step 6 true (.step 7 true (.step 8 true (.step 9 true (.step 11 true (.both (.step 10 false (.step 12 false (.step 13 true (.step 14 true .done)))) (.step 12 false (.step 10 false (.step 13 true (.step 14 true .done)))))))))))))))))]⟩
theorem xok113 : okO T0 X113 = true := by kernel_rfl
noncomputable def X114 : FX := ⟨Go.Proofs.Tryz.f114, []⟩
theorem xok114 : okO T0 X114 = true := by kernel_rfl
noncomputable def X115 : FX := ⟨Go.Proofs.Tryz.f115, [(17, (.step 0 true (.step 1 true (.step 2 true (.step 3 true (.step 4 true (.step 5 true (.step 6 true (.step 7 true (.step 8 true (.step 9 true (.step 10 true (.step 11 true (.step 12 false (.step 13 true (.step 14 true .done))))))))))))))))]⟩
theorem xok115 : okO T0 X115 = true := by kernel_rfl
noncomputable def X116 : FX := ⟨Go.Proofs.Tryz.f116, []⟩
theorem xok116 : okO T0 X116 = true := by kernel_rfl
noncomputable def X117 : FX := ⟨Go.Proofs.Tryz.f117, []⟩
theorem xok117 : okO T0 X117 = true := by kernel_rfl
noncomputable def X118 : FX := ⟨Go.Proofs.Tryz.f118, []⟩
theorem xok118 : okO T0 X118 = true := by kernel_rfl
noncomputable def X119 : FX := ⟨Go.Proofs.Tryz.f119, []⟩
theorem xok119 : okO T0 X119 = true := by kernel_rfl
noncomputable def X120 : FX := ⟨Go.Proofs.Tryz.f120, [(1, (.step 0 true (.step 1 true (.step 2 true (.step 3 true (.step 4 true (.step 5 true (.step 6 true (.step 7 true (.step 8 true .done))))))))))]⟩
theorem xok120 : okO T0 X120 = true := by kernel_rfl
noncomputable def X121 : FX := ⟨Go.Proofs.Tryz.f121, [(1, (.step 0 true (.step 1 true (.step 2 true (.step 3 true (.step 4 true (.step 5 true (.step 6 true (.step 7 true (.step 8 true (.step 9 true (.step 10 true (.step 11 true .done)))))))))))))]⟩
theorem xok121 : okO T0 X121 = true := by kernel_rfl
noncomputable def X122 : FX := ⟨Go.Proofs.Tryz.f122, [(3, (.step 0 true (.step 1 true (.step 2 true (.step 3 true (.step 5 true (.step 6 true (.step 7 true (.step 8 true (.step 4 true (.step 9 true (.step 10 false (.step 11 true .done)))))))))))))]⟩
theorem xok122 : okO T0 X122 = true := by kernel_rfl
noncomputable def X123 : FX := ⟨Go.Proofs.Tryz.f123, []⟩
theorem xok123 : okO T0 X123 = true := by kernel_rfl
noncomputable def X124 : FX := ⟨Go.Proofs.Tryz.f124, [(5, (.step 0 true (.step 1 true (.step 2 true (.step 3 true (.step 4 true (.step 5 true (.step 6 true (.step 7 true (.step 8 true (.step 9 true (.step 10 true (.step 11 true (.step 12 true (.step 13 true (.step 14 true (.step 15 true (.step 16 true (.step 17 true (.step 18 true (.step 19 true (.step 20 true (.step 21 true (.step 22 true (.step 23 true (.step 24 true (.step 25 false (.step 26 false .done))))))))))))))))))))))))))))]⟩
theorem xok124 : okO T0 X124 = true := by kernel_rfl
noncomputable def X125 : FX := ⟨Go.Proofs.Tryz.f125, []⟩
theorem xok125 : okO T0 X125 = true := by kernel_rfl
noncomputable def X126 : FX := ⟨Go.Proofs.Tryz.f126, [(1, (.step 0 true (.step 1 true (.step 2 true (.step 3 true (.step 4 true (.step 5 true (.step 6 true (.step 7 true (.step 8 true (.step 10 true (.step 11 true (.step 12 true (.step 13 true (.step 14 true (.step 15 true (.step 19 true (.step 20 true (.step 21 true (.step 22 true (.pool [24] (.step 9 true (.step 16 true (.step 17 true (.step 18 true (.step 23 true .done))))) (.step 25 false .done)))))))))))))))))))))), (6, (.step 0 true (.step 1 true (.step 2 true (.step 3 true (.step 4 true (.step 5 true (.step 6 true (.step 7 true (.step 8 true (.step 9 true (.step 10 false (.step 11 true (.step 12 true (.step 13 true (.step 14 true (.step 15 true (.step 16 false (.step 17 true (.step 18 false (.step 19 true (.step 20 false .done)))))))))))))))))))))), (8, (.step 0 true (.step 1 true (.step 3 true (.step 4 true (.step 5 true (.step 6 true (.step 2 true (.step 7 false .done)))))))))]⟩
theorem xok126 : okO T0 X126 = true := by kernel_rfl
noncomputable def X127 : FX := ⟨Go.Proofs.Tryz.f127, []⟩
theorem xok127 : okO T0 X127 = true := by kernel_rfl
noncomputable def X128 : FX := ⟨Go.Proofs.Tryz.f128, []⟩
theorem xok128 : okO T0 X128 = true := by kernel_rfl
noncomputable def X129 : FX := ⟨Go.Proofs.Tryz.f129, []⟩
theorem xok129 : okO T0 X129 = true := by kernel_rfl
noncomputable def X130 : FX := ⟨Go.Proofs.Tryz.f130, []⟩
theorem xok130 : okO T0 X130 = true := by kernel_rfl
noncomputable def X131 : FX := ⟨Go.Proofs.Tryz.f131, []⟩
theorem xok131 : okO T0 X131 = true := by kernel_rfl
noncomputable def X132 : FX := ⟨Go.Proofs.Tryz.f132, []⟩
theorem xok132 : okO T0 X132 = true := by kernel_rfl
noncomputable def X133 : FX := ⟨Go.Proofs.Tryz.f133, []⟩
theorem xok133 : okO T0 X133 = true := by kernel_rfl
noncomputable def X134 : FX := ⟨Go.Proofs.Tryz.f134, [(2, (.step 0 true (.step 1 true (.step 2 true (.step 3 true (.step 4 true (.both (.step 5 false (.step 6 true (.step 7 false .done))) (.step 6 true (.step 5 false (.step 7 false .done)))))))))), (6, (.step 0 true (.step 1 true (.step 2 true (.step 3 true (.step 4 true (.step 5 true (.step 6 true (.step 7 true (.step 8 false (.step 9 false (.step 10 true .done))))))))))))]⟩
theorem xok134 : okO T0 X134 = true := by kernel_rfl
noncomputable def X135 : FX := ⟨Go.Proofs.Tryz.f135, []⟩
theorem xok135 : okO T0 X135 = true := by kernel_rfl
noncomputable def X136 : FX := ⟨Go.Proofs.Tryz.f136, [(1, (.step 0 true (.step 1 true (.step 2 true (.step 3 true (.step 4 true (.step 5 true (.step 6 true (.step 7 true (.step 8 true (.step 9 true (.step 10 true (.step 11 true (.step 12 true (.step 13 false .done)))))))))))))))]⟩
theorem xok136 : okO T0 X136 = true := by kernel_rfl
noncomputable def X137 : FX := ⟨Go.Proofs.Tryz.f137, []⟩
theorem xok137 : okO T0 X137 = true := by kernel_rfl
noncomputable def X138 : FX := ⟨Go.Proofs.Tryz.f138, [(1, (.step 0 true (.step 1 true (.step 2 true (.step 3 true (.step 4 true (.step 5 true (.step 6 true (.step 7 true (.step 8 true (.step 9 true (.step 10 true (.step 11 true (.step 12 true (.step 13 true (.step 14 true (.step 15 true (.step 16 true (.step 17 true (.step 18 true (.step 19 true .done)))))))))))))))))))))]⟩
theorem xok138 : okO T0 X138 = true := by kernel_rfl
noncomputable def X139 : FX := ⟨Go.Proofs.Tryz.f139, []⟩
theorem xok139 : okO T0 X139 = true := by kernel_rfl
noncomputable def X140 : FX := ⟨Go.Proofs.Tryz.f140, [(11, (.step 0 true (.step 1 true (.step 2 true (.step 3 true (.step 4 true (.step 5 true (.step 6 true (.step 7 false .done))))))))), (9, (.step 0 true (.step 2 true (.step 3 true (.step 4 true (.step 5 true (.step 1 true (.step 6 false .done))))))))]⟩
theorem xok140 : okO T0 X140 = true := by kernel_rfl
noncomputable def X141 : FX := ⟨Go.Proofs.Tryz.f141, []⟩
theorem xok141 : okO T0 X141 = true := by kernel_rfl
noncomputable def X142 : FX := ⟨Go.Proofs.Tryz.f142, []⟩
theorem xok142 : okO T0 X142 = true := by kernel_rfl
noncomputable def X143 : FX := ⟨Go.Proofs.Tryz.f143, []⟩
theorem xok143 : okO T0 X143 = true := by kernel_rfl
noncomputable def X144 : FX := ⟨Go.Proofs.Tryz.f144, []⟩
theorem xok144 : okO T0 X144 = true := by kernel_rfl
noncomputable def X145 : FX := ⟨Go.Proofs.Tryz.f145, [(2, (.step 0 true (.step 1 true (.step 2 true (.step 3 true (.step 4 true (.step 5 true (.step 7 true (.step 8 true (.step 9 true (.step 10 true (.step 6 true (.step 11 true (.step 12 false .done))))))))))))))]⟩
theorem xok145 : okO T0 X145 = true := by kernel_rfl
noncomputable def X146 : FX := ⟨Go.Proofs.Tryz.f146, []⟩
theorem xok146 : okO T0 X146 = true := by kernel_rfl
noncomputable def X147 : FX := ⟨Go.Proofs.Tryz.f147, [(7, (.step 0 true (.step 1 true (.step 2 true (.step 3 true (.step 4 true (.step 6 true (.step 7 true (.step 8 true (.step 9 true (.step 10 true (.step 12 true (.step 5 true (.step 11 true (.step 13 true (.step 14 false (.step 15 false (.step 16 true (.step 17 true (.step 18 false .done))))))))))))))))))))]⟩
theorem xok147 : okO T0 X147 = true := by kernel_rfl
noncomputable def X148 : FX := ⟨Go.Proofs.Tryz.f148, [(1, (.step 0 true (.step 1 true (.step 2 true (.step 3 true (.step 4 true (.step 5 true (.step 6 true (.step 7 true (.step 8 true (.step 9 true (.step 10 true .done))))))))))))]⟩
theorem xok148 : okO T0 X148 = true := by kernel_rfl
noncomputable def X149 : FX := ⟨Go.Proofs.Tryz.f149, []⟩
theorem xok149 : okO T0 X149 = true := by kernel_rfl
noncomputable def X151 : FX := ⟨Go.Proofs.Tryz.f151, []⟩
theorem xok151 : okO T0 X151 = true := by kernel_rfl
noncomputable def X152 : FX := ⟨Go.Proofs.Tryz.f152, [(4, (.step 0 true (.step 1 true (.step 2 true (.step 3 true (.step 4 true (.step 5 true (.step 6 true (.step 7 true (.step 8 true (.step 9 true (.step 10 true (.step 11 true (.step 12 true (.step 13 false (.step 14 true .done)))))))))))))))), (6, (.step 0 true (.step 1 true (.step 2 true (.step 3 true (.step 4 true (.step 5 true (.step 6 true (.step 7 true (.step 8 true (.step 9 true (.step 10 true (.step 11 true (.step 12 true (.step 13 true (.step 14 true (.step 15 false (.step 16 true (.step 17 false .done)))))))))))))))))))]⟩
theorem xok152 : okO T0 X152 = true := by kernel_rfl
noncomputable def X153 : FX := ⟨Go.Proofs.Tryz.f153, [(10, (.step 0 true (.step 1 true (.step 2 true (.step 3 true (.step 4 true (.step 5 true (.step 6 true (.step 7 true (.step 8 true (.step 9 true (.step 10 true (.step 11 true (.step 12 true (.step 13 true (.step 14 true (.step 15 true (.step 16 true (.step 17 false (.step 18 true (.step 19 false .done)))))))))))))))))))))]⟩
theorem xok153 : okO T0 X153 = true := by kernel_rfl
noncomputable def X154 : FX := ⟨Go.Proofs.Tryz.f154, [(10, (.step 0 true (.step 1 true (.step 2 true (.step 3 true (.step 4 true (.step 5 true (.step 6 true (.step 7 true (.step 8 true (.step 9 true (.step 10 true (.step 11 true (.step 12 true (.step 13 true (.step 14 true (.step 15 true (.step 16 true (.step 17 false (.step 18 true (.step 19 false .done)))))))))))))))))))))]⟩
theorem xok154 : okO T0 X154 = true := by kernel_rfl
noncomputable def X155 : FX := ⟨Go.Proofs.Tryz.f155, []⟩
theorem xok155 : okO T0 X155 = true := by kernel_rfl
noncomputable def X156 : FX := ⟨Go.Proofs.Tryz.f156, [(3, (.step 0 true (.step 1 true (.step 2 true (.step 3 true (.step 4 true (.step 5 true (.step 6 true (.step 7 true (.step 8 true (.step 9 true (.step 10 true (.step 11 true (.step 12 true (.step 13 false (.step 14 true (.step 15 false .done)))))))))))))))))]⟩
theorem xok156 : okO T0 X156 = true := by kernel_rfl
noncomputable def X157 : FX := ⟨Go.Proofs.Tryz.f157, [(5, (.step 0 true (.step 1 true (.step 2 true (.step 3 true (.step 4 true (.step 5 true (.step 6 true (.step 7 true (.step 8 true (.step 9 true (.step 10 true (.step 11 true (.step 12 true (.step 13 false (.step 14 true (.step 15 true .done))))))))))))))))), (11, (.step 0 true (.step 1 true (.step 2 true (.step 3 true (.step 4 true (.step 5 true (.step 6 true (.step 7 true (.step 8 true (.step 9 true (.step 10 true (.step 11 true (.step 12 true (.step 13 true (.step 14 true (.step 15 false (.step 16 true (.step 17 false .done))))))))))))))))))), (16, (.step 0 true (.step 1 true (.step 2 true (.step 3 true (.step 4 true (.step 5 true (.step 6 true (.step 7 true (.step 8 true (.step 9 false (.step 10 true .done)))))))))))), (17, (.step 0 true (.step 1 true (.step 2 true (.step 3 true (.step 4 true (.step 5 true (.step 6 true (.step 7 true (.step 8 true (.step 9 true (.step 10 true (.step 11 true (.step 12 true (.step 13 true (.step 14 true (.step 15 false (.step 16 true (.step 17 false .done))))))))))))))))))), (22, (.step 0 true (.step 1 true (.step 2 true (.step 3 true (.step 4 true (.step 5 true (.step 6 true (.step 7 true (.step 8 true (.step 9 false (.step 10 true .done)))))))))))), (23, (.step 0 true (.step 1 true (.step 2 true (.step 3 true (.step 4 true (.step 5 true (.step 6 true (.step 7 true (.step 8 true (.step 9 true (.step 10 true (.step 11 true (.step 12 true (.step 13 true (.step 14 true (.step 15 false (.step 16 true (.step 17 false .done)))))))))))))))))))]⟩
theorem xok157 : okO T0 X157 = true := by kernel_rfl
noncomputable def X158 : FX := ⟨Go.Proofs.Tryz.f158, []⟩
theorem xok158 : okO T0 X158 = true := by kernel_rfl
noncomputable def X159 : FX := ⟨Go.Proofs.Tryz.f159, [(1, (.step 0 true (.step 1 true (.step 2 true (.step 3 true (.step 4 true (.step 5 true (.step 6 true (.step 7 true (.step 8 true (.step 9 true (.step 10 true (.step 11 true (.step 12 true (.step 13 false (.step 14 true (.step 15 false .done))))))))))))))))), (3, (.step 0 true (.step 1 true (.step 2 true (.step 3 true (.step 4 true (.step 5 true (.step 6 true (.step 7 true (.step 8 true (.step 9 true (.step 10 true (.step 11 true (.step 12 false (.step 13 true (.step 14 true .done)))))))))))))))), (5, (.step 0 true (.step 1 true (.step 2 true (.step 3 true (.step 4 true (.step 5 true (.step 6 true (.step 7 true (.step 8 true (.step 9 true (.step 10 true (.step 11 true (.step 12 false (.step 13 true .done))))))))))))))), (8, (.step 0 true (.step 1 true (.step 2 true (.step 3 true (.step 4 true (.step 5 true (.step 6 true (.step 7 true (.step 8 true (.step 9 true (.step 10 true (.step 11 true (.step 12 true (.step 13 false (.step 14 true (.step 15 false .done)))))))))))))))))]⟩
theorem xok159 : okO T0 X159 = true := by kernel_rfl
noncomputable def X160 : FX := ⟨Go.Proofs.Tryz.f160, [(1, (.step 0 true (.step 1 true (.step 2 true (.step 3 true (.step 4 true (.step 5 true (.step 6 true (.step 7 true (.step 8 true (.step 9 true (.step 10 true (.step 11 true (.step 12 true (.step 13 false (.step 14 true (.step 15 false .done))))))))))))))))), (3, (.step 0 true (.step 1 true (.step 2 true (.step 3 true (.step 4 true (.step 5 true (.step 6 true (.step 7 true (.step 8 true (.step 9 true (.step 10 true (.step 11 true (.step 12 false (.step 13 true .done))))))))))))))), (5, (.step 0 true (.step 1 true (.step 2 true (.step 3 true (.step 4 true (.step 5 true (.step 6 true (.step 7 true (.step 8 true (.step 9 true (.step 10 true (.step 11 true (.step 12 false (.step 13 true (.step 14 true .done)))))))))))))))), (8, (.step 0 true (.step 1 true (.step 2 true (.step 3 true (.step 4 true (.step 5 true (.step 6 true (.step 7 true (.step 8 true (.step 9 true (.step 10 true (.step 11 true (.step 12 true (.step 13 false (.step 14 true (.step 15 false .done))))))))))))))))), (10, (.step 0 true (.step 1 true (.step 2 true (.step 3 true (.step 4 true (.step 5 true (.step 6 true (.step 7 true (.step 8 true (.step 9 true (.step 10 true (.step 11 true (.step 12 true (.step 13 false (.step 14 true (.step 15 false .done))))))))))))))))), (13, (.step 0 true (.step 1 true (.step 2 true (.step 3 true (.step 4 true (.step 5 true (.step 6 true (.step 7 true (.step 8 true (.step 9 true (.step 10 true (.step 11 true (.step 12 false (.step 13 true .done))))))))))))))), (15, (.step 0 true (.step 1 true (.step 2 true (.step 3 true (.step 4 true (.step 5 true (.step 6 true (.step 7 true (.step 8 true (.step 9 true (.step 10 true (.step 11 true (.step 12 false (.step 13 true (.step 14 true .done)))))))))))))))), (18, (.step 0 true (.step 1 true (.step 2 true (.step 3 true (.step 4 true (.step 5 true (.step 6 true (.step 7 true (.step 8 true (.step 9 true (.step 10 true (.step 11 true (.step 12 true (.step 13 false (.step 14 true (.step 15 false .done))))))))))))))))), (21, (.step 0 true (.step 1 true (.step 2 true (.step 3 true (.step 4 true (.step 5 true (.step 6 true (.step 7 true (.step 8 true (.step 9 true (.step 10 true (.step 11 true (.step 12 true (.step 13 false (.step 14 true (.step 15 false .done)))))))))))))))))]⟩
theorem xok160 : okO T0 X160 = true := by kernel_rfl
noncomputable def X161 : FX := ⟨Go.Proofs.Tryz.f161, []⟩
theorem xok161 : okO T0 X161 = true := by kernel_rfl
noncomputable def X162 : FX := ⟨Go.Proofs.Tryz.f162, []⟩
theorem xok162 : okO T0 X162 = true := by kernel_rfl
noncomputable def X163 : FX := ⟨Go.Proofs.Tryz.f163, []⟩
theorem xok163 : okO T0 X163 = true := by kernel_rfl
noncomputable def X164 : FX := ⟨Go.Proofs.Tryz.f164, [(2, (.step 0 true (.step 1 true (.step 2 true (.step 3 true (.step 4 true (.step 5 true (.step 6 true (.step 7 true (.step 8 true (.step 9 true (.step 10 true (.step 11 true (.step 12 true (.step 13 true (.step 14 true (.step 15 true (.step 16 true (.step 17 true (.step 18 true (.step 19 true (.step 20 true (.step 21 true (.step 22 true .done))))))))))))))))))))))))]⟩
theorem xok164 : okO T0 X164 = true := by kernel_rfl
noncomputable def X165 : FX := ⟨Go.Proofs.Tryz.f165, []⟩
theorem xok165 : okO T0 X165 = true := by kernel_rfl
noncomputable def X166 : FX := ⟨Go.Proofs.Tryz.f166, []⟩
theorem xok166 : okO T0 X166 = true := by kernel_rfl
noncomputable def X167 : FX := ⟨Go.Proofs.Tryz.f167, [(3, (.step 0 true (.step 1 true (.step 2 true (.step 3 true (.step 4 true (.step 5 true (.step 6 true (.step 7 false (.step 8 true (.step 9 true (.step 10 false (.step 11 true .done))))))))))))), (5, (.step 0 true (.step 1 true (.step 2 true (.step 3 true (.step 4 true (.step 5 true (.step 6 true (.step 7 true (.step 8 false (.step 9 true (.step 10 true (.step 11 false (.step 12 true .done)))))))))))))), (17, (.step 0 true (.step 1 true (.step 2 true (.step 3 true (.step 4 true (.step 5 true (.step 6 true (.step 7 true (.step 8 true (.step 9 true (.step 10 true (.step 11 false (.step 12 true (.step 13 true (.step 14 false (.step 15 true .done)))))))))))))))))]⟩
theorem xok167 : okO T0 X167 = true := by kernel_rfl
noncomputable def X168 : FX := ⟨Go.Proofs.Tryz.f168, []⟩
theorem xok168 : okO T0 X168 = true := by kernel_rfl
noncomputable def X169 : FX := ⟨Go.Proofs.Tryz.f169, []⟩
theorem xok169 : okO T0 X169 = true := by kernel_rfl
noncomputable def X170 : FX := ⟨Go.Proofs.Tryz.f170, [(1, (.step 0 true (.step 1 true (.step 3 true (.step 4 true (.step 5 true (.step 2 true (.step 6 false (.step 7 true (.step 8 true .done))))))))))]⟩
theorem xok170 : okO T0 X170 = true := by kernel_rfl
noncomputable def X171 : FX := ⟨Go.Proofs.Tryz.f171, []⟩
theorem xok171 : okO T0 X171 = true := by kernel_rfl
noncomputable def X172 : FX := ⟨Go.Proofs.Tryz.f172, []⟩
theorem xok172 : okO T0 X172 = true := by kernel_rfl
noncomputable def X173 : FX := ⟨Go.Proofs.Tryz.f173, []⟩
theorem xok173 : okO T0 X173 = true := by kernel_rfl
noncomputable def X174 : FX := ⟨Go.Proofs.Tryz.f174, [(1, (.step 0 true (.step 1 true (.step 2 true (.step 3 true (.step 4 true (.step 5 true (.step 6 true (.step 7 true (.step 8 true (.step 9 true (.step 10 false (.step 11 false .done)))))))))))))]⟩
theorem xok174 : okO T0 X174 = true := by kernel_rfl
noncomputable def X175 : FX := ⟨Go.Proofs.Tryz.f175, [(1, (.step 0 true (.step 1 true (.step 2 true (.step 3 true (.step 4 true (.step 5 true (.step 6 true (.step 7 true (.step 8 true (.step 9 true (.step 10 false (.step 11 false .done)))))))))))))]⟩
theorem xok175 : okO T0 X175 = true := by kernel_rfl
noncomputable def X176 : FX := ⟨Go.Proofs.Tryz.f176, [(1, (.step 0 true (.step 1 true (.step 2 true (.step 3 true (.step 4 true (.step 5 true (.step 6 true (.step 7 true (.step 8 true (.step 9 false (.step 10 true .done))))))))))))]⟩
theorem xok176 : okO T0 X176 = true := by kernel_rfl
noncomputable def X177 : FX := ⟨Go.Proofs.Tryz.f177, [(1, (.step 0 true (.step 1 true (.step 2 true (.step 3 true (.step 4 true (.step 5 true (.step 6 true (.step 7 true (.step 8 true (.step 9 false (.step 10 true .done))))))))))))]⟩
theorem xok177 : okO T0 X177 = true := by kernel_rfl
noncomputable def X178 : FX := ⟨Go.Proofs.Tryz.f178, [(1, (.step 0 true (.step 1 true (.step 2 true (.step 3 true (.step 4 true (.step 5 true (.step 6 true (.step 7 true (.step 8 true (.step 9 true (.step 10 true (.step 11 false .done)))))))))))))]⟩
theorem xok178 : okO T0 X178 = true := by kernel_rfl
noncomputable def X179 : FX := ⟨Go.Proofs.Tryz.f179, [(1, (.step 0 true (.step 1 true (.step 2 true (.step 3 true (.step 4 true (.step 5 true (.step 6 true (.step 7 true (.step 8 true (.step 9 true (.step 10 true (.step 11 true (.step 12 true (.step 13 true (.step 14 true (.step 15 true .done))))))))))))))))), (6, (.step 0 true (.step 1 true (.step 2 true (.step 3 true (.step 4 true (.step 5 true (.step 6 true (.step 7 true (.step 8 false .done))))))))))]⟩
theorem xok179 : okO T0 X179 = true := by kernel_rfl
noncomputable def X180 : FX := ⟨Go.Proofs.Tryz.f180, [(1, (.step 0 true (.step 1 true (.step 2 true (.step 3 true (.step 4 true (.step 5 true (.step 6 true (.step 7 true (.step 8 true (.step 9 true (.step 10 true (.step 11 true (.step 12 true (.step 13 true (.step 14 true (.step 15 true (.step 16 true (.step 17 false .done)))))))))))))))))))]⟩
theorem xok180 : okO T0 X180 = true := by kernel_rfl
noncomputable def X181 : FX := ⟨Go.Proofs.Tryz.f181, []⟩
theorem xok181 : okO T0 X181 = true := by kernel_rfl
noncomputable def X182 : FX := ⟨Go.Proofs.Tryz.f182, []⟩
theorem xok182 : okO T0 X182 = true := by kernel_rfl
noncomputable def X183 : FX := ⟨Go.Proofs.Tryz.f183, [(5, (.step 0 true (.step 1 true (.step 2 true (.step 3 true (.step 4 true (.step 5 true (.step 6 true (.step 7 true (.step 8 true (.step 9 true (.step 12 true (.step 10 false (.step 11 true (.step 13 false (.step 14 true .done))))))))))))))))]⟩
theorem xok183 : okO T0 X183 = true := by kernel_rfl
noncomputable def X184 : FX := ⟨Go.Proofs.Tryz.f184, [(5, (.step 0 true (.step 1 true (.step 2 true (.step 3 true (.step 4 true (.step 5 true (.step 6 true (.step 7 true (.step 8 true (.step 9 true (.step 11 true (.step 10 false (.step 12 false (.step 13 true .done)))))))))))))))]⟩
theorem xok184 : okO T0 X184 = true := by kernel_rfl
noncomputable def X185 : FX := ⟨Go.Proofs.Tryz.f185, [(1, (.step 0 true (.step 1 true (.step 2 true (.step 3 true (.step 4 true (.step 5 true (.step 6 true (.step 7 false .done)))))))))]⟩
theorem xok185 : okO T0 X185 = true := by kernel_rfl
noncomputable def X186 : FX := ⟨Go.Proofs.Tryz.f186, [(1, (.step 0 true (.step 1 true (.step 2 true (.step 3 true (.step 4 true (.step 5 true (.step 6 true (.step 7 true (.step 8 true (.step 9 true .done)))))))))))]⟩
theorem xok186 : okO T0 X186 = true := by kernel_rfl
noncomputable def X187 : FX := ⟨Go.Proofs.Tryz.f187, [(8, (.step 0 true (.step 1 true (.step 2 true (.step 3 true (.step 4 true (.step 5 true .done)))))))]⟩
theorem xok187 : okO T0 X187 = true := by kernel_rfl
noncomputable def X188 : FX := ⟨Go.Proofs.Tryz.f188, [(1, (.step 0 true (.step 1 true (.step 3 true (.step 2 true (.step 4 false .done))))))]⟩
theorem xok188 : okO T0 X188 = true := by kernel_rfl
noncomputable def X189 : FX := ⟨Go.Proofs.Tryz.f189, [(1, (.step 0 true (.step 1 true (.step 3 true (.step 2 true (.step 4 false .done))))))]⟩
theorem xok189 : okO T0 X189 = true := by kernel_rfl
noncomputable def X190 : FX := ⟨Go.Proofs.Tryz.f190, []⟩
theorem xok190 : okO T0 X190 = true := by kernel_rfl
noncomputable def X191 : FX := ⟨Go.Proofs.Tryz.f191, [(2, (.step 0 true (.step 1 true (.step 4 true (.step 5 true (.step 6 true (.step 7 true (.step 8 true (.step 2 true (.step 3 true (.step 9 false (.step 10 true (.step 11 true (.step 12 true .done))))))))))))))]⟩
theorem xok191 : okO T0 X191 = true := by kernel_rfl
noncomputable def X192 : FX := ⟨Go.Proofs.Tryz.f192, []⟩
theorem xok192 : okO T0 X192 = true := by kernel_rfl
noncomputable def X193 : FX := ⟨Go.Proofs.Tryz.f193, []⟩
theorem xok193 : okO T0 X193 = true := by kernel_rfl
noncomputable def X194 : FX := ⟨Go.Proofs.Tryz.f194, [(4, (.step 0 true (.step 2 true (.step 3 true (.step 4 true (.step 6 true (.step 1 false (.step 5 true .done))))))))]⟩
theorem xok194 : okO T0 X194 = true := by kernel_rfl
noncomputable def X195 : FX := ⟨Go.Proofs.Tryz.f195, []⟩
theorem xok195 : okO T0 X195 = true := by kernel_rfl
noncomputable def X196 : FX := ⟨Go.Proofs.Tryz.f196, []⟩
theorem xok196 : okO T0 X196 = true := by kernel_rfl
noncomputable def X197 : FX := ⟨Go.Proofs.Tryz.f197, []⟩
theorem xok197 : okO T0 X197 = true := by kernel_rfl
noncomputable def X198 : FX := ⟨Go.Proofs.Tryz.f198, []⟩
theorem xok198 : okO T0 X198 = true := by kernel_rfl
noncomputable def X199 : FX := ⟨Go.Proofs.Tryz.f199, []⟩
theorem xok199 : okO T0 X199 = true := by kernel_rfl
noncomputable def X200 : FX := ⟨Go.Proofs.Tryz.f200, []⟩
theorem xok200 : okO T0 X200 = true := by kernel_rfl
noncomputable def X201 : FX := ⟨Go.Proofs.Tryz.f201, [(19, (.step 0 true (.step 1 true (.step 2 true (.step 3 false .done)))))]⟩
theorem xok201 : okO T0 X201 = true := by kernel_rfl
noncomputable def X202 : FX := ⟨Go.Proofs.Tryz.f202, [(5, (.step 0 true (.step 1 true (.step 2 true (.step 3 true (.step 4 true (.step 5 true (.step 6 true (.step 7 false (.step 8 true (.step 9 true (.step 10 true (.step 11 true (.step 12 true (.step 13 true (.step 14 false .done)))))))))))))))), (6, (.step 0 true (.step 1 true (.step 2 true (.step 3 true (.step 4 true (.step 5 true (.step 6 true (.step 7 false .done))))))))), (7, (.step 0 true (.step 1 true (.step 2 true (.step 3 true (.step 4 true (.step 5 true (.step 6 true (.step 7 true (.step 8 false (.step 9 true (.step 10 true (.step 11 true (.step 12 false .done))))))))))))))]⟩
theorem xok202 : okO T0 X202 = true := by kernel_rfl
noncomputable def X203 : FX := ⟨Go.Proofs.Tryz.f203, [(1, (.step 0 true (.step 1 true (.step 2 true (.step 3 true (.step 4 true (.step 5 true (.step 6 true (.step 7 true (.step 11 true (.step 8 true (.step 9 true (.step 10 false (.step 12 true (.step 13 true .done)))))))))))))))]⟩
theorem xok203 : okO T0 X203 = true := by kernel_rfl
noncomputable def X204 : FX := ⟨Go.Proofs.Tryz.f204, []⟩
theorem xok204 : okO T0 X204 = true := by kernel_rfl
noncomputable def X205 : FX := ⟨Go.Proofs.Tryz.f205, [(10, (.step 0 true (.step 1 true (.step 2 true (.step 5 true (.step 6 true (.step 3 true (.step 4 true (.step 7 true (.step 8 true (.step 9 true .done)))))))))))]⟩
theorem xok205 : okO T0 X205 = true := by kernel_rfl
noncomputable def X206 : FX := ⟨Go.Proofs.Tryz.f206, []⟩
theorem xok206 : okO T0 X206 = true := by kernel_rfl
noncomputable def X207 : FX := ⟨Go.Proofs.Tryz.f207, []⟩
theorem xok207 : okO T0 X207 = true := by kernel_rfl
noncomputable def X208 : FX := ⟨Go.Proofs.Tryz.f208, []⟩
theorem xok208 : okO T0 X208 = true := by kernel_rfl
noncomputable def X209 : FX := ⟨Go.Proofs.Tryz.f209, []⟩
theorem xok209 : okO T0 X209 = true := by kernel_rfl
noncomputable def X210 : FX := ⟨Go.Proofs.Tryz.f210, []⟩
theorem xok210 : okO T0 X210 = true := by kernel_rfl
noncomputable def X211 : FX := ⟨Go.Proofs.Tryz.f211, [(4, (.step 0 true (.step 1 true (.step 2 true (.step 3 true (.step 4 true (.step 5 true (.step 6 true (.step 7 false (.step 8 false (.step 9 true .done))))))))))), (5, (.step 0 true (.step 1 true (.step 2 true (.step 3 true (.step 4 true (.step 5 true (.step 6 true (.step 7 true (.step 8 true (.step 9 true (.step 10 true (.step 11 false (.step 12 true .done))))))))))))))]⟩
theorem xok211 : okO T0 X211 = true := by kernel_rfl
noncomputable def X212 : FX := ⟨Go.Proofs.Tryz.f212, []⟩
theorem xok212 : okO T0 X212 = true := by kernel_rfl
noncomputable def X213 : FX := ⟨Go.Proofs.Tryz.f213, []⟩
theorem xok213 : okO T0 X213 = true := by kernel_rfl
noncomputable def X214 : FX := ⟨Go.Proofs.Tryz.f214, []⟩
theorem xok214 : okO T0 X214 = true := by kernel_rfl
noncomputable def X215 : FX := ⟨Go.Proofs.Tryz.f215, [(2, (.step 0 true (.step 1 true (.step 2 true (.step 3 true (.step 4 true (.step 5 true (.step 6 true (.step 7 true (.step 8 false (.step 9 false .done)))))))))))]⟩
theorem xok215 : okO T0 X215 = true := by kernel_rfl
noncomputable def X216 : FX := ⟨Go.Proofs.Tryz.f216, []⟩
theorem xok216 : okO T0 X216 = true := by kernel_rfl
noncomputable def X217 : FX := ⟨Go.Proofs.Tryz.f217, []⟩
theorem xok217 : okO T0 X217 = true := by kernel_rfl
noncomputable def X218 : FX := ⟨Go.Proofs.Tryz.f218, []⟩
theorem xok218 : okO T0 X218 = true := by kernel_rfl
noncomputable def X219 : FX := ⟨Go.Proofs.Tryz.f219, [(1, (.step 0 true (.step 1 true (.step 2 true (.step 4 true (.step 3 true (.step 5 false .done)))))))]⟩
theorem xok219 : okO T0 X219 = true := by kernel_rfl
noncomputable def X220 : FX := ⟨Go.Proofs.Tryz.f220, []⟩
theorem xok220 : okO T0 X220 = true := by kernel_rfl
noncomputable def X221 : FX := ⟨Go.Proofs.Tryz.f221, [(1, (.step 0 true (.step 1 true (.step 2 true (.step 4 true (.step 3 true (.step 5 false .done)))))))]⟩
theorem xok221 : okO T0 X221 = true := by kernel_rfl
noncomputable def X222 : FX := ⟨Go.Proofs.Tryz.f222, [(1, (.step 0 true (.step 1 true (.step 2 true (.step 3 true (.step 4 true (.step 5 true (.step 6 true (.step 7 false .done)))))))))]⟩
theorem xok222 : okO T0 X222 = true := by kernel_rfl
noncomputable def X223 : FX := ⟨Go.Proofs.Tryz.f223, []⟩
theorem xok223 : okO T0 X223 = true := by kernel_rfl
noncomputable def X224 : FX := ⟨Go.Proofs.Tryz.f224, []⟩
theorem xok224 : okO T0 X224 = true := by kernel_rfl
noncomputable def X225 : FX := ⟨Go.Proofs.Tryz.f225, []⟩
theorem xok225 : okO T0 X225 = true := by kernel_rfl
noncomputable def X226 : FX := ⟨Go.Proofs.Tryz.f226, []⟩
theorem xok226 : okO T0 X226 = true := by kernel_rfl
noncomputable def X227 : FX := ⟨Go.Proofs.Tryz.f227, []⟩
theorem xok227 : okO T0 X227 = true := by kernel_rfl
noncomputable def X228 : FX := ⟨Go.Proofs.Tryz.f228, [(1, (.step 0 true (.step 1 true (.step 2 true (.step 3 true (.step 4 true (.step 5 true (.step 6 true (.step 7 true (.step 8 true (.step 9 true (.step 10 true (.step 11 true (.step 12 true (.step 13 true (.step 14 true (.step 15 true (.step 16 false .done))))))))))))))))))]⟩
theorem xok228 : okO T0 X228 = true := by kernel_rfl
noncomputable def X229 : FX := ⟨Go.Proofs.Tryz.f229, []⟩
theorem xok229 : okO T0 X229 = true := by kernel_rfl
noncomputable def X230 : FX := ⟨Go.Proofs.Tryz.f230, [(8, (.step 0 true (.step 1 true (.step 2 true (.step 3 true (.step 4 true (.step 5 true (.step 6 true (.step 7 true (.step 8 true (.step 9 true (.step 10 true (.step 11 true (.step 12 true (.step 13 true (.step 14 true .done))))))))))))))))]⟩
theorem xok230 : okO T0 X230 = true := by kernel_rfl
noncomputable def X231 : FX := ⟨Go.Proofs.Tryz.f231, []⟩
theorem xok231 : okO T0 X231 = true := by kernel_rfl
noncomputable def X232 : FX := ⟨Go.Proofs.Tryz.f232, [(6, (.step 0 true (.step 1 true (.step 2 true (.step 3 true (.step 4 true (.step 5 true (.step 6 true (.step 7 true (.step 8 true (.step 9 true (.step 10 true (.step 11 false .done))))))))))))), (7, (.step 0 true (.step 1 true (.step 2 true (.step 3 true (.step 4 true (.step 5 true (.step 6 true (.step 7 true (.step 8 false (.step 9 false .done)))))))))))]⟩
theorem xok232 : okO T0 X232 = true := by kernel_rfl
noncomputable def X233 : FX := ⟨Go.Proofs.Tryz.f233, []⟩
theorem xok233 : okO T0 X233 = true := by kernel_rfl
noncomputable def X234 : FX := ⟨Go.Proofs.Tryz.f234, []⟩
theorem xok234 : okO T0 X234 = true := by kernel_rfl
noncomputable def X235 : FX := ⟨Go.Proofs.Tryz.f235, [(3, (.step 0 true (.step 1 true (.step 2 true (.step 3 true (.step 4 true (.step 5 true (.step 6 true (.step 7 true (.step 8 true (.step 9 false .done)))))))))))]⟩
theorem xok235 : okO T0 X235 = true := by kernel_rfl
noncomputable def X236 : FX := ⟨Go.Proofs.Tryz.f236, []⟩
theorem xok236 : okO T0 X236 = true := by kernel_rfl
noncomputable def X237 : FX := ⟨Go.Proofs.Tryz.f237, [(4, (.step 0 true (.step 1 true (.step 2 true (.step 3 true (.step 4 true (.step 5 true (.step 6 true (.step 7 true (.step 8 true (.step 9 true (.step 10 false (.step 11 false .done)))))))))))))]⟩
theorem xok237 : okO T0 X237 = true := by kernel_rfl
noncomputable def X238 : FX := ⟨Go.Proofs.Tryz.f238, []⟩
theorem xok238 : okO T0 X238 = true := by kernel_rfl
noncomputable def X239 : FX := ⟨Go.Proofs.Tryz.f239, []⟩
theorem xok239 : okO T0 X239 = true := by kernel_rfl
noncomputable def X240 : FX := ⟨Go.Proofs.Tryz.f240, []⟩
theorem xok240 : okO T0 X240 = true := by kernel_rfl
noncomputable def X241 : FX := ⟨Go.Proofs.Tryz.f241, [(7, (.step 0 true (.step 1 true (.step 2 true (.step 3 true (.step 4 true (.step 5 true (.step 7 true (.step 9 true (.step 6 true (.step 8 true (.step 10 false (.step 11 true (.step 12 true (.step 13 true (.step 14 true (.step 15 true (.step 16 true (.step 17 true .done)))))))))))))))))))]⟩
theorem xok241 : okO T0 X241 = true := by kernel_rfl
noncomputable def X242 : FX := ⟨Go.Proofs.Tryz.f242, []⟩
theorem xok242 : okO T0 X242 = true := by kernel_rfl
noncomputable def X243 : FX := ⟨Go.Proofs.Tryz.f243, []⟩
theorem xok243 : okO T0 X243 = true := by kernel_rfl
noncomputable def X244 : FX := ⟨Go.Proofs.Tryz.f244, []⟩
theorem xok244 : okO T0 X244 = true := by kernel_rfl
noncomputable def X245 : FX := ⟨Go.Proofs.Tryz.f245, [(3, (.step 0 true (.step 1 true (.step 2 true (.step 3 true (.step 4 true (.step 5 true (.step 6 true (.step 7 true (.step 8 true (.step 9 true (.step 10 true (.step 11 true (.step 12 true (.step 13 true (.step 14 true (.step 15 true (.step 16 true (.step 17 true (.step 18 false (.step 19 true .done))))))))))))))))))))), (5, (.step 0 true (.step 1 true (.step 2 true (.step 3 true (.step 4 true (.step 5 true (.step 6 true (.step 7 true (.step 8 true (.step 9 true (.step 10 true (.step 11 true (.step 12 false (.step 13 true .done))))))))))))))), (6, (.step 0 true (.step 1 true (.step 2 true (.step 3 true (.step 4 true (.step 5 true (.step 6 true (.step 7 true (.step 8 true (.step 9 true (.step 10 true (.step 11 true (.step 12 true (.step 13 true (.step 14 true (.step 15 true (.step 16 true (.step 17 true (.step 18 true (.step 19 true (.step 20 true (.step 21 false (.step 22 true (.step 23 false .done)))))))))))))))))))))))))]⟩
theorem xok245 : okO T0 X245 = true := by kernel_rfl
noncomputable def X246 : FX := ⟨Go.Proofs.Tryz.f246, []⟩
theorem xok246 : okO T0 X246 = true := by kernel_rfl
noncomputable def X247 : FX := ⟨Go.Proofs.Tryz.f247, [(1, (.step 0 true (.step 1 true (.step 2 true (.step 3 true (.step 4 true (.step 5 true (.step 6 true (.step 7 true (.step 8 true (.step 9 false .done))))))))))), (2, (.step 0 true (.step 1 true (.step 2 true (.step 3 true (.step 4 true (.step 5 true (.step 6 true (.step 7 true (.step 8 true (.step 9 false .done))))))))))), (3, (.step 0 true (.step 1 true (.step 2 true (.step 3 true (.step 4 true (.step 5 true (.step 6 true (.step 7 true (.step 8 true (.step 9 false .done)))))))))))]⟩
theorem xok247 : okO T0 X247 = true := by kernel_rfl
noncomputable def X248 : FX := ⟨Go.Proofs.Tryz.f248, []⟩
theorem xok248 : okO T0 X248 = true := by kernel_rfl
noncomputable def X249 : FX := ⟨Go.Proofs.Tryz.f249, []⟩
theorem xok249 : okO T0 X249 = true := by kernel_rfl
noncomputable def X250 : FX := ⟨Go.Proofs.Tryz.f250, []⟩
theorem xok250 : okO T0 X250 = true := by kernel_rfl
noncomputable def X251 : FX := ⟨Go.Proofs.Tryz.f251, []⟩
theorem xok251 : okO T0 X251 = true := by kernel_rfl
noncomputable def X252 : FX := ⟨Go.Proofs.Tryz.f252, []⟩
theorem xok252 : okO T0 X252 = true := by kernel_rfl
noncomputable def X253 : FX := ⟨Go.Proofs.Tryz.f253, []⟩
theorem xok253 : okO T0 X253 = true := by kernel_rfl
noncomputable def X254 : FX := ⟨Go.Proofs.Tryz.f254, []⟩
theorem xok254 : okO T0 X254 = true := by kernel_rfl
noncomputable def X255 : FX := ⟨Go.Proofs.Tryz.f255, []⟩
theorem xok255 : okO T0 X255 = true := by kernel_rfl
noncomputable def X256 : FX := ⟨Go.Proofs.Tryz.f256, []⟩
theorem xok256 : okO T0 X256 = true := by kernel_rfl
noncomputable def X257 : FX := ⟨Go.Proofs.Tryz.f257, []⟩
theorem xok257 : okO T0 X257 = true := by kernel_rfl
noncomputable def X258 : FX := ⟨Go.Proofs.Tryz.f258, []⟩
theorem xok258 : okO T0 X258 = true := by kernel_rfl
noncomputable def X260 : FX := ⟨Go.Proofs.Tryz.f260, [(2, (.step 0 true (.step 1 true (.step 2 true (.step 3 true (.step 4 true (.step 5 true (.step 6 true (.step 7 true (.step 8 true (.step 9 true (.step 10 true (.step 11 true .done)))))))))))))]⟩
theorem xok260 : okO T0 X260 = true := by kernel_rfl
noncomputable def X261 : FX := ⟨Go.Proofs.Tryz.f261, [(7, (.step 0 true (.step 1 true (.step 2 true (.step 3 true (.step 4 true (.step 5 true (.step 6 true (.step 7 true (.step 8 true (.step 9 true (.step 10 true (.step 11 false (.step 12 true (.step 13 true (.step 14 false (.step 15 true .done)))))))))))))))))]⟩
theorem xok261 : okO T0 X261 = true := by kernel_rfl
noncomputable def X262 : FX := ⟨Go.Proofs.Tryz.f262, [(1, (.step 0 true (.step 1 true (.step 2 true (.step 3 true (.step 4 true (.step 5 true (.step 6 true (.step 7 true (.step 8 true (.step 9 false (.step 10 true (.step 11 true (.step 12 true (.step 13 true (.step 14 true .done))))))))))))))))]⟩
theorem xok262 : okO T0 X262 = true := by kernel_rfl
noncomputable def X263 : FX := ⟨Go.Proofs.Tryz.f263, [(2, (.step 0 true (.step 1 true (.step 2 true (.step 4 true (.step 5 true (.step 6 true (.step 7 true (.step 8 true (.step 3 true (.step 9 true (.step 10 false (.step 11 true .done)))))))))))))]⟩
theorem xok263 : okO T0 X263 = true := by kernel_rfl
noncomputable def X264 : FX := ⟨Go.Proofs.Tryz.f264, []⟩
theorem xok264 : okO T0 X264 = true := by kernel_rfl
noncomputable def X265 : FX := ⟨Go.Proofs.Tryz.f265, []⟩
theorem xok265 : okO T0 X265 = true := by kernel_rfl
noncomputable def X266 : FX := ⟨Go.Proofs.Tryz.f266, [(1, (.step 0 true (.step 1 true (.step 2 true (.step 3 true (.step 4 true (.step 5 true (.step 6 true (.step 7 true (.step 8 true (.step 9 true (.step 10 false .done)))))))))))), (7, (.step 0 true (.step 1 true (.step 2 true (.step 3 true (.step 4 true (.step 5 true (.step 6 true (.step 7 true (.step 8 false (.step 9 false .done)))))))))))]⟩
theorem xok266 : okO T0 X266 = true := by kernel_rfl
noncomputable def X267 : FX := ⟨Go.Proofs.Tryz.f267, [(2, (.step 0 true (.step 1 true (.step 2 true (.step 3 true (.step 4 true (.step 5 true (.step 6 true (.step 7 true (.step 8 true (.step 9 true (.step 10 false .done))))))))))))]⟩
theorem xok267 : okO T0 X267 = true := by kernel_rfl
noncomputable def X268 : FX := ⟨Go.Proofs.Tryz.f268, [(1, (.step 0 true (.step 1 true (.step 2 true (.step 3 true (.step 4 true (.step 5 true (.step 6 true (.step 7 true (.step 8 true (.step 9 true (.step 10 false .done)))))))))))), (4, (.step 0 true (.step 1 true (.step 2 true (.step 3 true (.step 4 true (.step 5 true (.step 6 true (.step 7 true .done)))))))))]⟩
theorem xok268 : okO T0 X268 = true := by kernel_rfl
noncomputable def X269 : FX := ⟨Go.Proofs.Tryz.f269, []⟩
theorem xok269 : okO T0 X269 = true := by kernel_rfl
noncomputable def X270 : FX := ⟨Go.Proofs.Tryz.f270, []⟩
theorem xok270 : okO T0 X270 = true := by kernel_rfl
noncomputable def X271 : FX := ⟨Go.Proofs.Tryz.f271, []⟩
theorem xok271 : okO T0 X271 = true := by kernel_rfl
noncomputable def X272 : FX := ⟨Go.Proofs.Tryz.f272, []⟩
theorem xok272 : okO T0 X272 = true := by kernel_rfl
noncomputable def X273 : FX := ⟨Go.Proofs.Tryz.f273, []⟩
theorem xok273 : okO T0 X273 = true := by kernel_rfl
noncomputable def X274 : FX := ⟨Go.Proofs.Tryz.f274, []⟩
theorem xok274 : okO T0 X274 = true := by kernel_rfl
noncomputable def X275 : FX := ⟨Go.Proofs.Tryz.f275, []⟩
theorem xok275 : okO T0 X275 = true := by kernel_rfl
noncomputable def X276 : FX := ⟨Go.Proofs.Tryz.f276, []⟩
theorem xok276 : okO T0 X276 = true := by kernel_rfl
noncomputable def X277 : FX := ⟨Go.Proofs.Tryz.f277, [(3, (.step 0 true (.step 1 true (.step 2 true (.step 3 true (.step 4 true (.step 5 true (.step 6 true (.step 7 true (.step 8 true (.step 9 true (.step 10 true (.step 11 true (.step 12 true (.step 13 false .done)))))))))))))))]⟩
theorem xok277 : okO T0 X277 = true := by kernel_rfl
noncomputable def X278 : FX := ⟨Go.Proofs.Tryz.f278, [(1, (.step 0 true (.step 1 true (.step 2 true (.step 3 true (.step 4 true (.step 5 true (.step 6 true (.step 7 true (.step 8 true (.step 9 true (.step 10 true (.step 11 true (.step 12 true (.step 13 true (.step 14 true (.step 15 true .done)))))))))))))))))]⟩
theorem xok278 : okO T0 X278 = true := by kernel_rfl
noncomputable def X279 : FX := ⟨Go.Proofs.Tryz.f279, []⟩
theorem xok279 : okO T0 X279 = true := by kernel_rfl
noncomputable def X280 : FX := ⟨Go.Proofs.Tryz.f280, []⟩
theorem xok280 : okO T0 X280 = true := by kernel_rfl
noncomputable def X281 : FX := ⟨Go.Proofs.Tryz.f281, []⟩
theorem xok281 : okO T0 X281 = true := by kernel_rfl
noncomputable def X282 : FX := ⟨Go.Proofs.Tryz.f282, []⟩
theorem xok282 : okO T0 X282 = true := by kernel_rfl
noncomputable def X283 : FX := ⟨Go.Proofs.Tryz.f283, []⟩
theorem xok283 : okO T0 X283 = true := by kernel_rfl
noncomputable def X284 : FX := ⟨Go.Proofs.Tryz.f284, []⟩
theorem xok284 : okO T0 X284 = true := by kernel_rfl
noncomputable def X285 : FX := ⟨Go.Proofs.Tryz.f285, []⟩
theorem xok285 : okO T0 X285 = true := by kernel_rfl
noncomputable def X286 : FX := ⟨Go.Proofs.Tryz.f286, [(3, (.step 0 true (.step 1 true (.step 2 true (.step 3 true (.step 4 true (.step 5 true (.step 6 true (.step 7 true (.step 8 true (.step 9 true (.step 10 true (.step 11 false .done))))))))))))), (5, (.step 0 true (.step 1 true (.step 3 true (.step 4 true (.step 2 true (.step 5 true (.step 6 true (.step 7 true .done)))))))))]⟩
theorem xok286 : okO T0 X286 = true := by kernel_rfl
noncomputable def X287 : FX := ⟨Go.Proofs.Tryz.f287, []⟩
theorem xok287 : okO T0 X287 = true := by kernel_rfl
noncomputable def X288 : FX := ⟨Go.Proofs.Tryz.f288, [(5, (.step 0 true (.step 1 true (.step 2 true (.step 3 true (.step 4 true (.step 5 true (.step 6 true (.step 7 true (.step 8 true (.step 9 true (.step 10 true (.step 11 false (.step 12 true .done)))))))))))))), (6, (.step 0 true (.step 1 true (.step 2 true (.step 3 true (.step 4 true (.step 5 true (.step 6 true (.step 7 true .done)))))))))]⟩
theorem xok288 : okO T0 X288 = true := by kernel_rfl
noncomputable def X289 : FX := ⟨Go.Proofs.Tryz.f289, []⟩
theorem xok289 : okO T0 X289 = true := by kernel_rfl
noncomputable def X290 : FX := ⟨Go.Proofs.Tryz.f290, []⟩
theorem xok290 : okO T0 X290 = true := by kernel_rfl
noncomputable def X291 : FX := ⟨Go.Proofs.Tryz.f291, []⟩
theorem xok291 : okO T0 X291 = true := by kernel_rfl
noncomputable def X292 : FX := ⟨Go.Proofs.Tryz.f292, []⟩
theorem xok292 : okO T0 X292 = true := by kernel_rfl
noncomputable def X293 : FX := ⟨Go.Proofs.Tryz.f293, []⟩
theorem xok293 : okO T0 X293 = true := by kernel_rfl
noncomputable def X294 : FX := ⟨Go.Proofs.Tryz.f294, []⟩
theorem xok294 : okO T0 X294 = true := by kernel_rfl
noncomputable def X295 : FX := ⟨Go.Proofs.Tryz.f295, []⟩
theorem xok295 : okO T0 X295 = true := by kernel_rfl
noncomputable def X296 : FX := ⟨Go.Proofs.Tryz.f296, [(8, (.step 0 true (.step 1 true (.step 2 true (.step 3 true (.step 4 true (.step 8 true (.step 9 true (.step 5 true (.step 6 true (.step 7 true (.step 10 true (.step 11 false .done)))))))))))))]⟩
theorem xok296 : okO T0 X296 = true := by kernel_rfl
noncomputable def X297 : FX := ⟨Go.Proofs.Tryz.f297, []⟩
theorem xok297 : okO T0 X297 = true := by kernel_rfl
noncomputable def X298 : FX := ⟨Go.Proofs.Tryz.f298, []⟩
theorem xok298 : okO T0 X298 = true := by kernel_rfl
noncomputable def X299 : FX := ⟨Go.Proofs.Tryz.f299, []⟩
theorem xok299 : okO T0 X299 = true := by kernel_rfl
noncomputable def X300 : FX := ⟨Go.Proofs.Tryz.f300, []⟩
theorem xok300 : okO T0 X300 = true := by kernel_rfl
noncomputable def X301 : FX := ⟨Go.Proofs.Tryz.f301, []⟩
theorem xok301 : okO T0 X301 = true := by kernel_rfl
noncomputable def X302 : FX := ⟨Go.Proofs.Tryz.f302, []⟩
theorem xok302 : okO T0 X302 = true := by kernel_rfl
noncomputable def X303 : FX := ⟨Go.Proofs.Tryz.f303, []⟩
theorem xok303 : okO T0 X303 = true := by kernel_rfl
noncomputable def X304 : FX := ⟨Go.Proofs.Tryz.f304, []⟩
theorem xok304 : okO T0 X304 = true := by kernel_rfl
noncomputable def X305 : FX := ⟨Go.Proofs.Tryz.f305, []⟩
theorem xok305 : okO T0 X305 = true := by kernel_rfl
noncomputable def X306 : FX := ⟨Go.Proofs.Tryz.f306, []⟩
theorem xok306 : okO T0 X306 = true := by kernel_rfl
noncomputable def X307 : FX := ⟨Go.Proofs.Tryz.f307, []⟩
theorem xok307 : okO T0 X307 = true := by kernel_rfl
noncomputable def X308 : FX := ⟨Go.Proofs.Tryz.f308, []⟩
theorem xok308 : okO T0 X308 = true := by kernel_rfl
noncomputable def X309 : FX := ⟨Go.Proofs.Tryz.f309, []⟩
theorem xok309 : okO T0 X309 = true := by kernel_rfl
noncomputable def X310 : FX := ⟨Go.Proofs.Tryz.f310, []⟩
theorem xok310 : okO T0 X310 = true := by kernel_rfl
noncomputable def X311 : FX := ⟨Go.Proofs.Tryz.f311, [(1, (.step 0 true (.step 1 true (.step 2 true (.step 3 true (.step 4 true (.step 5 true (.step 6 true (.step 7 true (.step 8 true (.step 9 true (.step 10 false (.step 11 true .done)))))))))))))]⟩
theorem xok311 : okO T0 X311 = true := by kernel_rfl
noncomputable def X312 : FX := ⟨Go.Proofs.Tryz.f312, [(1, (.step 0 true (.step 1 true (.step 2 true (.step 3 true (.step 4 true (.step 5 true (.step 6 true (.step 7 true (.step 8 true (.step 9 true .done))))))))))), (2, (.step 0 true (.step 1 true (.step 2 true (.step 3 true (.step 4 true (.step 5 true (.step 6 true .done)))))))), (4, (.step 0 true (.step 1 true (.step 2 true (.step 3 true (.step 4 true (.step 5 true (.step 6 true .done)))))))), (5, (.step 0 true (.step 1 true (.step 2 true (.step 3 true (.step 4 true (.step 5 true .done)))))))]⟩
theorem xok312 : okO T0 X312 = true := by kernel_rfl
noncomputable def X313 : FX := ⟨Go.Proofs.Tryz.f313, []⟩
theorem xok313 : okO T0 X313 = true := by kernel_rfl
noncomputable def X314 : FX := ⟨Go.Proofs.Tryz.f314, [(10, (.step 0 true (.step 1 true (.step 2 true (.step 3 true (.step 4 true (.step 5 false (.step 6 false .done))))))))]⟩
theorem xok314 : okO T0 X314 = true := by kernel_rfl
noncomputable def X315 : FX := ⟨Go.Proofs.Tryz.f315, []⟩
theorem xok315 : okO T0 X315 = true := by kernel_rfl
noncomputable def X316 : FX := ⟨Go.Proofs.Tryz.f316, []⟩
theorem xok316 : okO T0 X316 = true := by kernel_rfl
noncomputable def X317 : FX := ⟨Go.Proofs.Tryz.f317, [(1, (.step 0 true (.step 1 true (.step 2 true (.step 3 true (.step 4 true (.step 5 true (.step 6 true (.step 7 true (.step 8 true (.step 9 true (.step 10 true (.step 11 false (.step 12 true .done))))))))))))))]⟩
theorem xok317 : okO T0 X317 = true := by kernel_rfl
noncomputable def X318 : FX := ⟨Go.Proofs.Tryz.f318, []⟩
theorem xok318 : okO T0 X318 = true := by kernel_rfl
noncomputable def X319 : FX := ⟨Go.Proofs.Tryz.f319, []⟩
theorem xok319 : okO T0 X319 = true := by kernel_rfl
noncomputable def X320 : FX := ⟨Go.Proofs.Tryz.f320, []⟩
theorem xok320 : okO T0 X320 = true := by kernel_rfl
noncomputable def X321 : FX := ⟨Go.Proofs.Tryz.f321, []⟩
theorem xok321 : okO T0 X321 = true := by kernel_rfl
noncomputable def X322 : FX := ⟨Go.Proofs.Tryz.f322, []⟩
theorem xok322 : okO T0 X322 = true := by kernel_rfl
noncomputable def X323 : FX := ⟨Go.Proofs.Tryz.f323, []⟩
theorem xok323 : okO T0 X323 = true := by kernel_rfl
noncomputable def X324 : FX := ⟨Go.Proofs.Tryz.f324, []⟩
theorem xok324 : okO T0 X324 = true := by kernel_rfl
noncomputable def X325 : FX := ⟨Go.Proofs.Tryz.f325, []⟩
theorem xok325 : okO T0 X325 = true := by kernel_rfl
noncomputable def X326 : FX := ⟨Go.Proofs.Tryz.f326, []⟩
theorem xok326 : okO T0 X326 = true := by kernel_rfl
noncomputable def X327 : FX := ⟨Go.Proofs.Tryz.f327, []⟩
theorem xok327 : okO T0 X327 = true := by kernel_rfl
noncomputable def X328 : FX := ⟨Go.Proofs.Tryz.f328, []⟩
theorem xok328 : okO T0 X328 = true := by kernel_rfl
noncomputable def X329 : FX := ⟨Go.Proofs.Tryz.f329, []⟩
theorem xok329 : okO T0 X329 = true := by kernel_rfl
noncomputable def X330 : FX := ⟨Go.Proofs.Tryz.f330, []⟩
theorem xok330 : okO T0 X330 = true := by kernel_rfl
noncomputable def X331 : FX := ⟨Go.Proofs.Tryz.f331, [(8, (.step 0 true (.step 1 true (.step 2 true (.step 3 true (.step 4 true (.pool [7] (.step 5 true (.step 6 true .done)) (.step 8 false .done))))))))]⟩
theorem xok331 : okO T0 X331 = true := by kernel_rfl
noncomputable def X332 : FX := ⟨Go.Proofs.Tryz.f332, []⟩
theorem xok332 : okO T0 X332 = true := by kernel_rfl
noncomputable def X333 : FX := ⟨Go.Proofs.Tryz.f333, []⟩
theorem xok333 : okO T0 X333 = true := by kernel_rfl
noncomputable def X334 : FX := ⟨Go.Proofs.Tryz.f334, [(13, (.step 0 true (.step 1 true (.step 2 true (.step 3 true (.step 4 true (.step 5 true (.step 6 true (.step 7 true (.step 8 true (.step 9 true (.step 10 true .done))))))))))))]⟩
theorem xok334 : okO T0 X334 = true := by kernel_rfl
noncomputable def X335 : FX := ⟨Go.Proofs.Tryz.f335, []⟩
theorem xok335 : okO T0 X335 = true := by kernel_rfl
noncomputable def X336 : FX := ⟨Go.Proofs.Tryz.f336, []⟩
theorem xok336 : okO T0 X336 = true := by kernel_rfl
noncomputable def X337 : FX := ⟨Go.Proofs.Tryz.f337, []⟩
theorem xok337 : okO T0 X337 = true := by kernel_rfl
noncomputable def X338 : FX := ⟨Go.Proofs.Tryz.f338, [(1, (.step 0 true (.step 1 true (.step 2 true (.step 3 true (.step 4 true (.step 5 true (.step 6 true (.step 7 true (.step 8 false .done))))))))))]⟩
theorem xok338 : okO T0 X338 = true := by kernel_rfl
noncomputable def X339 : FX := ⟨Go.Proofs.Tryz.f339, []⟩
theorem xok339 : okO T0 X339 = true := by kernel_rfl
noncomputable def X340 : FX := ⟨Go.Proofs.Tryz.f340, []⟩
theorem xok340 : okO T0 X340 = true := by kernel_rfl
noncomputable def X341 : FX := ⟨Go.Proofs.Tryz.f341, []⟩
theorem xok341 : okO T0 X341 = true := by kernel_rfl
noncomputable def X342 : FX := ⟨Go.Proofs.Tryz.f342, []⟩
theorem xok342 : okO T0 X342 = true := by kernel_rfl
noncomputable def X343 : FX := ⟨Go.Proofs.Tryz.f343, []⟩
theorem xok343 : okO T0 X343 = true := by kernel_rfl
noncomputable def X344 : FX := ⟨Go.Proofs.Tryz.f344, []⟩
theorem xok344 : okO T0 X344 = true := by kernel_rfl
noncomputable def X345 : FX := ⟨Go.Proofs.Tryz.f345, []⟩
theorem xok345 : okO T0 X345 = true := by kernel_rfl
noncomputable def X346 : FX := ⟨Go.Proofs.Tryz.f346, [(8, (.step 0 true (.step 1 true (.step 2 true (.step 3 true (.step 4 true (.step 5 true (.step 6 false .done))))))))]⟩
theorem xok346 : okO T0 X346 = true := by kernel_rfl
noncomputable def X347 : FX := ⟨Go.Proofs.Tryz.f347, []⟩
theorem xok347 : okO T0 X347 = true := by kernel_rfl
noncomputable def X348 : FX := ⟨Go.Proofs.Tryz.f348, [(8, (.step 0 true (.step 1 true (.step 2 true (.step 3 true (.step 4 true (.step 5 true (.step 6 true (.step 7 true (.step 8 true (.step 9 false (.step 10 false .done))))))))))))]⟩
theorem xok348 : okO T0 X348 = true := by kernel_rfl
noncomputable def X349 : FX := ⟨Go.Proofs.Tryz.f349, []⟩
theorem xok349 : okO T0 X349 = true := by kernel_rfl
noncomputable def X350 : FX := ⟨Go.Proofs.Tryz.f350, []⟩
theorem xok350 : okO T0 X350 = true := by kernel_rfl
noncomputable def X351 : FX := ⟨Go.Proofs.Tryz.f351, []⟩
theorem xok351 : okO T0 X351 = true := by kernel_rfl
noncomputable def X352 : FX := ⟨Go.Proofs.Tryz.f352, []⟩
theorem xok352 : okO T0 X352 = true := by kernel_rfl
noncomputable def X353 : FX := ⟨Go.Proofs.Tryz.f353, []⟩
theorem xok353 : okO T0 X353 = true := by kernel_rfl
noncomputable def X354 : FX := ⟨Go.Proofs.Tryz.f354, []⟩
theorem xok354 : okO T0 X354 = true := by kernel_rfl
noncomputable def X355 : FX := ⟨Go.Proofs.Tryz.f355, []⟩
theorem xok355 : okO T0 X355 = true := by kernel_rfl
noncomputable def X356 : FX := ⟨Go.Proofs.Tryz.f356, []⟩
theorem xok356 : okO T0 X356 = true := by kernel_rfl
noncomputable def X357 : FX := ⟨Go.Proofs.Tryz.f357, []⟩
theorem xok357 : okO T0 X357 = true := by kernel_rfl
noncomputable def X358 : FX := ⟨Go.Proofs.Tryz.f358, [(5, (.step 0 true (.step 1 true (.step 2 true (.step 3 true (.step 4 true (.step 5 true (.step 6 true (.step 7 true (.step 8 true (.step 9 true (.step 10 true (.step 12 true (.step 13 true (.step 14 true (.step 15 true (.step 16 true (.step 11 true (.step 17 true (.step 18 true (.step 19 false (.step 20 false (.step 21 true .done)))))))))))))))))))))))]⟩
theorem xok358 : okO T0 X358 = true := by kernel_rfl
noncomputable def X359 : FX := ⟨Go.Proofs.Tryz.f359, []⟩
theorem xok359 : okO T0 X359 = true := by kernel_rfl
noncomputable def X360 : FX := ⟨Go.Proofs.Tryz.f360, [(1, (.step 0 true (.step 1 true (.step 2 true (.step 3 true (.step 4 true (.step 5 true (.step 6 false (.step 7 true (.step 8 true (.step 9 true (.step 10 true (.step 11 true (.step 12 true .done))))))))))))))]⟩
theorem xok360 : okO T0 X360 = true := by kernel_rfl
noncomputable def X361 : FX := ⟨Go.Proofs.Tryz.f361, [(5, (.step 0 true (.step 1 true (.step 2 true (.step 3 true (.step 4 true (.step 5 true (.step 6 false .done)))))))), (10, (.step 0 true (.step 1 true (.step 2 true (.step 3 true (.step 4 false (.step 5 false .done))))))), (12, (.step 0 true (.step 1 true (.step 2 true (.step 3 true (.step 4 false (.step 5 false .done))))))), (15, (.step 0 true (.step 1 true (.step 2 true (.step 3 true (.step 4 true .done))))))]⟩
theorem xok361 : okO T0 X361 = true := by kernel_rfl
noncomputable def X362 : FX := ⟨Go.Proofs.Tryz.f362, []⟩
theorem xok362 : okO T0 X362 = true := by kernel_rfl
noncomputable def X363 : FX := ⟨Go.Proofs.Tryz.f363, [(1, (.step 0 true (.step 1 true (.step 2 true (.step 3 true (.step 4 true (.step 5 true (.step 6 true (.step 7 true (.step 8 true (.step 9 true (.step 10 true (.step 11 true (.step 12 true (.step 13 true (.step 14 true (.step 15 true (.step 16 true (.step 17 true (.step 18 true (.step 19 true (.step 20 true (.step 21 true (.step 22 true (.step 23 true (.step 24 true (.step 25 true (.step 26 true (.step 27 true (.step 28 true (.step 29 true (.step 30 true (.step 31 true (.step 32 true (.step 33 true (.step 34 true (.step 35 false (.step 36 true (.step 37 true .done)))))))))))))))))))))))))))))))))))))))]⟩
theorem xok363 : okO T0 X363 = true := by kernel_rfl
noncomputable def X364 : FX := ⟨Go.Proofs.Tryz.f364, [(1, (.step 0 true (.step 1 true (.step 2 true (.step 3 true (.step 4 true (.step 5 true (.step 6 true (.step 7 true (.step 8 true (.step 9 true (.step 10 false (.step 11 true .done))))))))))))), (3, (.step 0 true (.step 1 true (.step 2 true (.step 3 true (.step 4 true (.step 5 true (.step 6 true (.step 7 true (.step 8 true (.step 9 true (.step 10 true (.step 11 true (.step 12 true (.step 13 true (.step 14 true (.step 15 true (.step 16 true (.step 17 true (.step 18 true (.step 19 false (.step 20 true (.step 21 true (.step 22 false .done))))))))))))))))))))))))]⟩
theorem xok364 : okO T0 X364 = true := by kernel_rfl
noncomputable def X365 : FX := ⟨Go.Proofs.Tryz.f365, []⟩
theorem xok365 : okO T0 X365 = true := by kernel_rfl
noncomputable def X366 : FX := ⟨Go.Proofs.Tryz.f366, [(9, (.step 0 true (.step 1 true (.step 2 true (.step 3 true (.step 4 true (.step 5 true (.step 6 true (.step 7 false (.step 8 true (.step 9 true .done)))))))))))]⟩
theorem xok366 : okO T0 X366 = true := by kernel_rfl
noncomputable def X367 : FX := ⟨Go.Proofs.Tryz.f367, []⟩
theorem xok367 : okO T0 X367 = true := by kernel_rfl
noncomputable def X368 : FX := ⟨Go.Proofs.Tryz.f368, []⟩
theorem xok368 : okO T0 X368 = true := by kernel_rfl
noncomputable def X369 : FX := ⟨Go.Proofs.Tryz.f369, [(16, (.step 0 true (.step 1 true (.step 2 true (.step 3 true (.step 4 true (.step 5 true (.step 6 false .done)))))))), (18, (.step 0 true (.step 1 true (.step 2 true (.step 3 true (.step 4 true (.step 5 true (.step 6 false .done)))))))), (13, (.step 0 true (.step 1 true (.step 2 true (.step 3 true (.step 4 true (.step 5 true (.step 6 true (.step 7 true (.step 8 false (.step 9 true (.step 10 true (.step 11 true (.step 12 false .done))))))))))))))]⟩
theorem xok369 : okO T0 X369 = true := by kernel_rfl
noncomputable def X370 : FX := ⟨Go.Proofs.Tryz.f370, []⟩
theorem xok370 : okO T0 X370 = true := by kernel_rfl
noncomputable def X371 : FX := ⟨Go.Proofs.Tryz.f371, [(3, (.step 0 true (.step 1 true (.step 2 true (.step 3 true (.step 4 true (.step 5 true (.step 6 true (.step 7 true (.step 8 true (.step 9 true (.step 10 true (.step 11 true (.step 12 true .done))))))))))))))]⟩
theorem xok371 : okO T0 X371 = true := by kernel_rfl
noncomputable def X372 : FX := ⟨Go.Proofs.Tryz.f372, []⟩
theorem xok372 : okO T0 X372 = true := by kernel_rfl
noncomputable def X373 : FX := ⟨Go.Proofs.Tryz.f373, []⟩
theorem xok373 : okO T0 X373 = true := by kernel_rfl
noncomputable def X374 : FX := ⟨Go.Proofs.Tryz.f374, [(1, (.step 0 true (.step 1 true (.step 2 true (.step 3 true (.step 5 true (.step 6 true (.step 7 true (.step 8 true (.step 9 true (.step 4 true (.step 10 false (.step 11 true .done)))))))))))))]⟩
theorem xok374 : okO T0 X374 = true := by kernel_rfl
noncomputable def X375 : FX := ⟨Go.Proofs.Tryz.f375, []⟩
theorem xok375 : okO T0 X375 = true := by kernel_rfl
noncomputable def X376 : FX := ⟨Go.Proofs.Tryz.f376, []⟩
theorem xok376 : okO T0 X376 = true := by kernel_rfl
noncomputable def X377 : FX := ⟨Go.Proofs.Tryz.f377, []⟩
theorem xok377 : okO T0 X377 = true := by kernel_rfl
noncomputable def X378 : FX := ⟨Go.Proofs.Tryz.f378, []⟩
theorem xok378 : okO T0 X378 = true := by kernel_rfl
noncomputable def X379 : FX := ⟨Go.Proofs.Tryz.f379, []⟩
theorem xok379 : okO T0 X379 = true := by kernel_rfl
noncomputable def X380 : FX := ⟨Go.Proofs.Tryz.f380, []⟩
theorem xok380 : okO T0 X380 = true := by kernel_rfl
noncomputable def X381 : FX := ⟨Go.Proofs.Tryz.f381, []⟩
theorem xok381 : okO T0 X381 = true := by kernel_rfl
noncomputable def X383 : FX := ⟨Go.Proofs.Tryz.f383, []⟩
theorem xok383 : okO T0 X383 = true := by kernel_rfl
noncomputable def X384 : FX := ⟨Go.Proofs.Tryz.f384, [(4, (.step 0 true (.step 1 true (.step 2 true (.step 4 true (.step 5 true (.step 3 false (.step 6 false (.step 7 true .done)))))))))]⟩
theorem xok384 : okO T0 X384 = true := by kernel_rfl
noncomputable def X385 : FX := ⟨Go.Proofs.Tryz.f385, []⟩
theorem xok385 : okO T0 X385 = true := by kernel_rfl
noncomputable def X386 : FX := ⟨Go.Proofs.Tryz.f386, []⟩
theorem xok386 : okO T0 X386 = true := by kernel_rfl
noncomputable def X387 : FX := ⟨Go.Proofs.Tryz.f387, []⟩
theorem xok387 : okO T0 X387 = true := by kernel_rfl
noncomputable def X388 : FX := ⟨Go.Proofs.Tryz.f388, []⟩
theorem xok388 : okO T0 X388 = true := by kernel_rfl
noncomputable def X389 : FX := ⟨Go.Proofs.Tryz.f389, []⟩
theorem xok389 : okO T0 X389 = true := by kernel_rfl
noncomputable def X391 : FX := ⟨Go.Proofs.Tryz.f391, []⟩
theorem xok391 : okO T0 X391 = true := by kernel_rfl
noncomputable def X392 : FX := ⟨Go.Proofs.Tryz.f392, []⟩
theorem xok392 : okO T0 X392 = true := by kernel_rfl
noncomputable def X393 : FX := ⟨Go.Proofs.Tryz.f393, []⟩
theorem xok393 : okO T0 X393 = true := by kernel_rfl
noncomputable def X394 : FX := ⟨Go.Proofs.Tryz.f394, []⟩
theorem xok394 : okO T0 X394 = true := by kernel_rfl
noncomputable def X395 : FX := ⟨Go.Proofs.Tryz.f395, []⟩
theorem xok395 : okO T0 X395 = true := by kernel_rfl
noncomputable def X396 : FX := ⟨Go.Proofs.Tryz.f396, [(4, (.step 0 true (.step 1 true (.step 2 true (.step 3 true (.step 4 true (.step 5 true (.step 6 true (.step 7 true (.step 8 true (.step 9 true (.step 10 true (.step 11 true (.step 12 false .done))))))))))))))]⟩
theorem xok396 : okO T0 X396 = true := by kernel_rfl
noncomputable def X397 : FX := ⟨Go.Proofs.Tryz.f397, []⟩
theorem xok397 : okO T0 X397 = true := by kernel_rfl
noncomputable def X398 : FX := ⟨Go.Proofs.Tryz.f398, [(0, (.step 0 true (.step 1 true (.step 2 true (.step 3 true (.step 4 true (.step 5 true (.step 6 true (.step 7 true (.step 8 true (.step 9 false .done)))))))))))]⟩
theorem xok398 : okO T0 X398 = true := by kernel_rfl
noncomputable def X399 : FX := ⟨Go.Proofs.Tryz.f399, []⟩
theorem xok399 : okO T0 X399 = true := by kernel_rfl
noncomputable def X400 : FX := ⟨Go.Proofs.Tryz.f400, []⟩
theorem xok400 : okO T0 X400 = true := by kernel_rfl
noncomputable def X401 : FX := ⟨Go.Proofs.Tryz.f401, []⟩
theorem xok401 : okO T0 X401 = true := by kernel_rfl
noncomputable def X402 : FX := ⟨Go.Proofs.Tryz.f402, []⟩
theorem xok402 : okO T0 X402 = true := by kernel_rfl
noncomputable def X403 : FX := ⟨Go.Proofs.Tryz.f403, []⟩
theorem xok403 : okO T0 X403 = true := by kernel_rfl
noncomputable def X405 : FX := ⟨Go.Proofs.Tryz.f405, [(1, (.step 0 true (.step 1 true (.step 2 true (.step 3 true (.step 4 true (.step 5 true (.step 6 true (.step 7 true (.step 8 false (.step 9 true .done)))))))))))]⟩
theorem xok405 : okO T0 X405 = true := by kernel_rfl
noncomputable def X406 : FX := ⟨Go.Proofs.Tryz.f406, [(1, (.step 0 true (.step 1 true (.step 2 true (.step 3 true (.step 4 true (.step 5 true (.step 6 true (.step 7 true (.step 8 false (.step 9 true .done)))))))))))]⟩
theorem xok406 : okO T0 X406 = true := by kernel_rfl
noncomputable def X407 : FX := ⟨Go.Proofs.Tryz.f407, []⟩
theorem xok407 : okO T0 X407 = true := by kernel_rfl
noncomputable def X408 : FX := ⟨Go.Proofs.Tryz.f408, []⟩
theorem xok408 : okO T0 X408 = true := by kernel_rfl
noncomputable def X409 : FX := ⟨Go.Proofs.Tryz.f409, [(1, (.step 0 true (.step 1 true (.step 2 true (.step 3 true (.step 4 true (.step 5 true (.step 6 true (.step 7 true (.step 8 false (.step 9 true (.step 10 false .done))))))))))))]⟩
theorem xok409 : okO T0 X409 = true := by kernel_rfl
noncomputable def X410 : FX := ⟨Go.Proofs.Tryz.f410, [(1, (.step 0 true (.step 1 true (.step 2 true (.step 3 true (.step 4 true (.step 5 true (.step 6 true (.step 7 true (.step 8 false (.step 9 true (.step 10 false .done))))))))))))]⟩
theorem xok410 : okO T0 X410 = true := by kernel_rfl
noncomputable def X411 : FX := ⟨Go.Proofs.Tryz.f411, [(1, (.step 0 true (.step 1 true (.step 2 true (.step 3 true (.step 4 true (.step 5 true (.step 6 true (.step 7 true (.step 8 true (.step 9 true (.step 10 true (.step 11 true (.step 12 true (.step 13 true (.step 14 true (.step 15 true (.step 16 true (.step 17 true (.step 18 false (.step 19 true (.step 20 false .done))))))))))))))))))))))]⟩
theorem xok411 : okO T0 X411 = true := by kernel_rfl
noncomputable def X412 : FX := ⟨Go.Proofs.Tryz.f412, [(1, (.step 0 true (.step 1 true (.step 2 true (.step 3 true (.step 4 true (.step 5 true (.step 6 true (.step 7 true (.step 8 true (.step 9 true (.step 10 true (.step 11 true (.step 12 true (.step 13 true (.step 14 true (.step 15 true (.step 16 false (.step 17 true (.step 18 false .done))))))))))))))))))))]⟩
theorem xok412 : okO T0 X412 = true := by kernel_rfl
noncomputable def X413 : FX := ⟨Go.Proofs.Tryz.f413, [(1, (.step 0 true (.step 1 true (.step 2 true (.step 3 true (.step 4 true (.step 5 true (.step 6 true (.step 7 true (.step 8 true (.step 9 true (.step 10 false .done))))))))))))]⟩
theorem xok413 : okO T0 X413 = true := by kernel_rfl
noncomputable def X414 : FX := ⟨Go.Proofs.Tryz.f414, []⟩
theorem xok414 : okO T0 X414 = true := by kernel_rfl
noncomputable def X415 : FX := ⟨Go.Proofs.Tryz.f415, []⟩
theorem xok415 : okO T0 X415 = true := by kernel_rfl
noncomputable def X416 : FX := ⟨Go.Proofs.Tryz.f416, [(2, (.step 0 true (.step 1 true (.step 2 true (.step 3 true (.step 4 true (.step 5 true (.step 6 true (.step 7 true (.step 8 true (.step 9 false (.step 10 true (.step 11 false .done)))))))))))))]⟩
theorem xok416 : okO T0 X416 = true := by kernel_rfl
noncomputable def X417 : FX := ⟨Go.Proofs.Tryz.f417, []⟩
theorem xok417 : okO T0 X417 = true := by kernel_rfl
noncomputable def X418 : FX := ⟨Go.Proofs.Tryz.f418, []⟩
theorem xok418 : okO T0 X418 = true := by kernel_rfl
noncomputable def X419 : FX := ⟨Go.Proofs.Tryz.f419, []⟩
theorem xok419 : okO T0 X419 = true := by kernel_rfl
noncomputable def X420 : FX := ⟨Go.Proofs.Tryz.f420, []⟩
theorem xok420 : okO T0 X420 = true := by kernel_rfl
noncomputable def X421 : FX := ⟨Go.Proofs.Tryz.f421, [(1, (.step 0 true (.step 1 true (.step 2 true (.step 3 true (.step 4 true (.step 5 true (.step 6 false (.step 7 true (.step 8 false .done))))))))))]⟩
theorem xok421 : okO T0 X421 = true := by kernel_rfl
noncomputable def X422 : FX := ⟨Go.Proofs.Tryz.f422, []⟩
theorem xok422 : okO T0 X422 = true := by kernel_rfl
noncomputable def X423 : FX := ⟨Go.Proofs.Tryz.f423, []⟩
theorem xok423 : okO T0 X423 = true := by kernel_rfl
noncomputable def X424 : FX := ⟨Go.Proofs.Tryz.f424, [(3, (.step 0 true (.step 1 true (.step 2 true (.step 3 true (.step 4 true (.step 5 true (.step 6 true (.step 7 true (.step 8 true (.step 9 true (.step 10 true (.step 11 true (.step 12 true (.step 13 true (.step 14 true (.step 15 true (.step 19 true (.step 16 true (.step 17 true (.step 18 true .done)))))))))))))))))))))]⟩
theorem xok424 : okO T0 X424 = true := by kernel_rfl
noncomputable def X425 : FX := ⟨Go.Proofs.Tryz.f425, []⟩
theorem xok425 : okO T0 X425 = true := by kernel_rfl
noncomputable def X426 : FX := ⟨Go.Proofs.Tryz.f426, []⟩
theorem xok426 : okO T0 X426 = true := by kernel_rfl
noncomputable def X427 : FX := ⟨Go.Proofs.Tryz.f427, []⟩
theorem xok427 : okO T0 X427 = true := by kernel_rfl
noncomputable def X428 : FX := ⟨Go.Proofs.Tryz.f428, []⟩
theorem xok428 : okO T0 X428 = true := by kernel_rfl
noncomputable def X429 : FX := ⟨Go.Proofs.Tryz.f429, []⟩
theorem xok429 : okO T0 X429 = true := by kernel_rfl
noncomputable def X430 : FX := ⟨Go.Proofs.Tryz.f430, []⟩
theorem xok430 : okO T0 X430 = true := by kernel_rfl
noncomputable def X431 : FX := ⟨Go.Proofs.Tryz.f431, []⟩
theorem xok431 : okO T0 X431 = true := by kernel_rfl
noncomputable def X432 : FX := ⟨Go.Proofs.Tryz.f432, []⟩
theorem xok432 : okO T0 X432 = true := by kernel_rfl
noncomputable def X433 : FX := ⟨Go.Proofs.Tryz.f433, []⟩
theorem xok433 : okO T0 X433 = true := by kernel_rfl
noncomputable def X434 : FX := ⟨Go.Proofs.Tryz.f434, []⟩
theorem xok434 : okO T0 X434 = true := by kernel_rfl
noncomputable def X435 : FX := ⟨Go.Proofs.Tryz.f435, []⟩
theorem xok435 : okO T0 X435 = true := by kernel_rfl
noncomputable def X436 : FX := ⟨Go.Proofs.Tryz.f436, [(0, (.step 0 true (.step 1 true (.step 2 true (.step 3 true (.step 4 true (.step 5 true (.step 6 true (.step 7 true (.step 9 true (.step 10 true (.step 11 true (.step 12 true (.step 13 true (.step 8 true (.step 14 true (.step 15 true .done)))))))))))))))))]⟩
theorem xok436 : okO T0 X436 = true := by kernel_rfl
noncomputable def X437 : FX := ⟨Go.Proofs.Tryz.f437, []⟩
theorem xok437 : okO T0 X437 = true := by kernel_rfl
noncomputable def X438 : FX := ⟨Go.Proofs.Tryz.f438, []⟩
theorem xok438 : okO T0 X438 = true := by kernel_rfl
noncomputable def X439 : FX := ⟨Go.Proofs.Tryz.f439, []⟩
theorem xok439 : okO T0 X439 = true := by kernel_rfl
noncomputable def X440 : FX := ⟨Go.Proofs.Tryz.f440, []⟩
theorem xok440 : okO T0 X440 = true := by kernel_rfl
noncomputable def X441 : FX := ⟨Go.Proofs.Tryz.f441, []⟩
theorem xok441 : okO T0 X441 = true := by kernel_rfl
noncomputable def X442 : FX := ⟨Go.Proofs.Tryz.f442, []⟩
theorem xok442 : okO T0 X442 = true := by kernel_rfl
noncomputable def X443 : FX := ⟨Go.Proofs.Tryz.f443, []⟩
theorem xok443 : okO T0 X443 = true := by kernel_rfl
noncomputable def X444 : FX := ⟨Go.Proofs.Tryz.f444, []⟩
theorem xok444 : okO T0 X444 = true := by kernel_rfl
noncomputable def X445 : FX := ⟨Go.Proofs.Tryz.f445, []⟩
theorem xok445 : okO T0 X445 = true := by kernel_rfl
noncomputable def X446 : FX := ⟨Go.Proofs.Tryz.f446, []⟩
theorem xok446 : okO T0 X446 = true := by kernel_rfl
noncomputable def X447 : FX := ⟨Go.Proofs.Tryz.f447, []⟩
theorem xok447 : okO T0 X447 = true := by kernel_rfl
noncomputable def X448 : FX := ⟨Go.Proofs.Tryz.f448, []⟩
theorem xok448 : okO T0 X448 = true := by kernel_rfl
noncomputable def X449 : FX := ⟨Go.Proofs.Tryz.f449, []⟩
theorem xok449 : okO T0 X449 = true := by kernel_rfl
noncomputable def X450 : FX := ⟨Go.Proofs.Tryz.f450, []⟩
theorem xok450 : okO T0 X450 = true := by kernel_rfl
noncomputable def X451 : FX := ⟨Go.Proofs.Tryz.f451, []⟩
theorem xok451 : okO T0 X451 = true := by kernel_rfl
noncomputable def X452 : FX := ⟨Go.Proofs.Tryz.f452, []⟩
theorem xok452 : okO T0 X452 = true := by kernel_rfl
noncomputable def X453 : FX := ⟨Go.Proofs.Tryz.f453, []⟩
theorem xok453 : okO T0 X453 = true := by kernel_rfl
noncomputable def X454 : FX := ⟨Go.Proofs.Tryz.f454, []⟩
theorem xok454 : okO T0 X454 = true := by kernel_rfl
noncomputable def X455 : FX := ⟨Go.Proofs.Tryz.f455, []⟩
theorem xok455 : okO T0 X455 = true := by kernel_rfl
noncomputable def X456 : FX := ⟨Go.Proofs.Tryz.f456, []⟩
theorem xok456 : okO T0 X456 = true := by kernel_rfl
noncomputable def X457 : FX := ⟨Go.Proofs.Tryz.f457, []⟩
theorem xok457 : okO T0 X457 = true := by kernel_rfl
noncomputable def X458 : FX := ⟨Go.Proofs.Tryz.f458, [(4, (.step 0 true (.step 1 true (.step 2 true (.step 3 true (.step 4 true (.step 5 true (.step 6 true (.step 7 true (.step 8 true (.step 9 true (.step 10 true (.step 11 true (.step 12 true (.step 13 true (.step 14 false (.step 15 true (.step 16 true .done)))))))))))))))))), (6, (.step 0 true (.step 1 true (.step 2 true (.step 3 true (.step 4 true (.step 5 true (.step 6 true (.step 7 true (.step 8 true (.step 9 true (.step 10 true (.step 11 true (.step 12 true (.step 13 true (.step 14 true (.step 15 false (.step 16 true (.step 17 false .done)))))))))))))))))))]⟩
theorem xok458 : okO T0 X458 = true := by kernel_rfl
noncomputable def X459 : FX := ⟨Go.Proofs.Tryz.f459, [(5, (.step 0 true (.step 1 true (.step 2 true (.step 3 true (.step 4 true (.step 5 true (.step 6 true (.step 7 true (.step 8 true (.step 9 false (.step 10 true .done)))))))))))), (11, (.step 0 true (.step 1 true (.step 2 true (.step 3 true (.step 4 true (.step 5 true (.step 6 true (.step 7 true (.step 8 true (.step 9 true (.step 10 true (.step 11 true (.step 12 true (.step 13 true (.step 14 true (.step 15 false (.step 16 true (.step 17 false .done))))))))))))))))))), (17, (.step 0 true (.step 1 true (.step 2 true (.step 3 true (.step 4 true (.step 5 true (.step 6 true (.step 7 true (.step 8 true (.step 9 false (.step 10 true (.step 11 true .done))))))))))))), (23, (.step 0 true (.step 1 true (.step 2 true (.step 3 true (.step 4 true (.step 5 true (.step 6 true (.step 7 true (.step 8 true (.step 9 true (.step 10 true (.step 11 true (.step 12 true (.step 13 true (.step 14 true (.step 15 false (.step 16 true (.step 17 false .done))))))))))))))))))), (35, (.step 0 true (.step 1 true (.step 2 true (.step 3 true (.step 4 true (.step 5 true (.step 6 true (.step 7 true (.step 8 true (.step 9 true (.step 10 true (.step 11 false (.step 12 true (.step 13 true .done)))))))))))))))]⟩
theorem xok459 : okO T0 X459 = true := by kernel_rfl
noncomputable def X460 : FX := ⟨Go.Proofs.Tryz.f460, []⟩
theorem xok460 : okO T0 X460 = true := by kernel_rfl
noncomputable def X463 : FX := ⟨Go.Proofs.Tryz.f463, []⟩
theorem xok463 : okO T0 X463 = true := by kernel_rfl
noncomputable def X464 : FX := ⟨Go.Proofs.Tryz.f464, []⟩
theorem xok464 : okO T0 X464 = true := by kernel_rfl
noncomputable def X465 : FX := ⟨Go.Proofs.Tryz.f465, []⟩
theorem xok465 : okO T0 X465 = true := by kernel_rfl
noncomputable def X466 : FX := ⟨Go.Proofs.Tryz.f466, []⟩
theorem xok466 : okO T0 X466 = true := by kernel_rfl
noncomputable def X467 : FX := ⟨Go.Proofs.Tryz.f467, []⟩
theorem xok467 : okO T0 X467 = true := by kernel_rfl
noncomputable def X468 : FX := ⟨Go.Proofs.Tryz.f468, []⟩
theorem xok468 : okO T0 X468 = true := by kernel_rfl
noncomputable def X469 : FX := ⟨Go.Proofs.Tryz.f469, []⟩
theorem xok469 : okO T0 X469 = true := by kernel_rfl
noncomputable def X470 : FX := ⟨Go.Proofs.Tryz.f470, [(0, (.step 0 true (.step 1 true (.step 2 true (.step 3 true (.step 4 true (.step 5 true (.step 6 true (.step 7 true (.step 8 true (.step 9 true (.step 10 true (.step 11 true (.step 12 true (.step 13 true (.step 14 true (.step 15 true (.step 16 true (.step 17 true (.step 18 true (.step 19 true (.step 20 true (.step 21 true .done)))))))))))))))))))))))]⟩
theorem xok470 : okO T0 X470 = true := by kernel_rfl
noncomputable def X471 : FX := ⟨Go.Proofs.Tryz.f471, []⟩
theorem xok471 : okO T0 X471 = true := by kernel_rfl
noncomputable def X472 : FX := ⟨Go.Proofs.Tryz.f472, [(1, (.step 0 true (.step 1 true (.step 3 true (.step 2 true (.step 4 true (.step 5 false (.step 6 true .done))))))))]⟩
theorem xok472 : okO T0 X472 = true := by kernel_rfl
noncomputable def X473 : FX := ⟨Go.Proofs.Tryz.f473, [(1, (.step 0 true (.step 1 true (.step 3 true (.step 2 true (.step 4 true (.step 5 false (.step 6 true .done))))))))]⟩
theorem xok473 : okO T0 X473 = true := by kernel_rfl
noncomputable def X474 : FX := ⟨Go.Proofs.Tryz.f474, []⟩
theorem xok474 : okO T0 X474 = true := by kernel_rfl
noncomputable def X475 : FX := ⟨Go.Proofs.Tryz.f475, []⟩
theorem xok475 : okO T0 X475 = true := by kernel_rfl
noncomputable def X476 : FX := ⟨Go.Proofs.Tryz.f476, []⟩
theorem xok476 : okO T0 X476 = true := by kernel_rfl
noncomputable def X477 : FX := ⟨Go.Proofs.Tryz.f477, [(0, (.step 0 true (.step 1 true (.step 2 true (.step 3 true (.step 4 true (.step 5 true (.step 6 true (.step 7 true (.step 8 true (.step 9 true (.step 10 true (.step 11 true (.step 12 false (.step 13 false .done)))))))))))))))]⟩
theorem xok477 : okO T0 X477 = true := by kernel_rfl
noncomputable def X478 : FX := ⟨Go.Proofs.Tryz.f478, []⟩
theorem xok478 : okO T0 X478 = true := by kernel_rfl
noncomputable def X479 : FX := ⟨Go.Proofs.Tryz.f479, [(1, (.step 0 true (.step 1 true (.step 2 true (.step 3 true (.step 4 true (.step 5 true (.step 6 true (.step 7 true (.step 8 true (.step 9 true (.step 10 true (.step 11 true (.step 12 true (.step 13 true (.step 14 true (.step 15 true (.step 16 true (.step 17 true (.step 18 true (.step 19 false (.step 20 true (.step 21 false .done)))))))))))))))))))))))]⟩
theorem xok479 : okO T0 X479 = true := by kernel_rfl
noncomputable def X480 : FX := ⟨Go.Proofs.Tryz.f480, []⟩
theorem xok480 : okO T0 X480 = true := by kernel_rfl
noncomputable def X481 : FX := ⟨Go.Proofs.Tryz.f481, [(1, (.step 0 true (.step 1 true (.step 2 true (.step 3 true (.step 4 true (.step 5 true (.step 6 true (.step 7 true (.step 8 false (.step 9 true .done)))))))))))]⟩
theorem xok481 : okO T0 X481 = true := by kernel_rfl
noncomputable def X482 : FX := ⟨Go.Proofs.Tryz.f482, []⟩
theorem xok482 : okO T0 X482 = true := by kernel_rfl
noncomputable def X483 : FX := ⟨Go.Proofs.Tryz.f483, []⟩
theorem xok483 : okO T0 X483 = true := by kernel_rfl
noncomputable def X484 : FX := ⟨Go.Proofs.Tryz.f484, []⟩
theorem xok484 : okO T0 X484 = true := by kernel_rfl
noncomputable def X485 : FX := ⟨Go.Proofs.Tryz.f485, [(3, (.step 0 true (.step 1 true (.step 2 true (.step 3 true (.step 4 true (.step 5 true (.step 6 true (.step 7 true (.step 8 false (.step 9 true (.step 10 true .done)))))))))))), (5, (.step 0 true (.step 1 true (.step 2 true (.step 3 true (.step 4 true (.step 5 false (.step 6 true .done)))))))), (6, (.step 0 true (.step 1 true (.step 2 true (.step 3 true (.step 4 true (.step 5 true (.step 6 true (.step 7 true (.step 8 true (.step 9 true (.step 10 true (.step 11 true (.step 14 true (.step 12 true (.step 13 false (.step 15 true (.step 16 true .done))))))))))))))))))]⟩
theorem xok485 : okO T0 X485 = true := by kernel_rfl
noncomputable def X486 : FX := ⟨Go.Proofs.Tryz.f486, [(2, (.step 0 true (.step 1 true (.step 2 true (.step 3 true (.step 4 true (.step 5 true (.step 6 true (.step 7 true (.step 9 true (.step 10 true (.step 11 true (.step 12 true (.step 13 true (.step 8 true (.step 14 true (.step 15 true .done)))))))))))))))))]⟩
theorem xok486 : okO T0 X486 = true := by kernel_rfl
noncomputable def X487 : FX := ⟨Go.Proofs.Tryz.f487, [(2, (.step 0 true (.step 1 true (.step 2 true (.step 3 true (.step 4 true (.step 5 true (.step 6 true (.step 7 true (.step 8 false (.step 9 true .done)))))))))))]⟩
theorem xok487 : okO T0 X487 = true := by kernel_rfl
noncomputable def X488 : FX := ⟨Go.Proofs.Tryz.f488, [(2, (.step 0 true (.step 1 true (.step 2 true (.step 3 true (.step 4 true (.step 5 true (.step 6 true (.step 7 true (.step 8 false (.step 9 true .done)))))))))))]⟩
theorem xok488 : okO T0 X488 = true := by kernel_rfl
noncomputable def X489 : FX := ⟨Go.Proofs.Tryz.f489, []⟩
theorem xok489 : okO T0 X489 = true := by kernel_rfl
noncomputable def X490 : FX := ⟨Go.Proofs.Tryz.f490, []⟩
theorem xok490 : okO T0 X490 = true := by kernel_rfl
noncomputable def X491 : FX := ⟨Go.Proofs.Tryz.f491, [(5, (.step 0 true (.step 1 true (.step 2 true (.step 3 true (.step 4 true (.step 5 true (.step 6 true (.step 7 true (.step 8 false .done)))))))))), (7, (.step 0 true (.step 1 true (.step 2 true (.step 3 true (.step 4 true (.step 5 true (.step 6 true (.step 7 true (.step 8 false .done))))))))))]⟩
theorem xok491 : okO T0 X491 = true := by kernel_rfl
noncomputable def X492 : FX := ⟨Go.Proofs.Tryz.f492, []⟩
theorem xok492 : okO T0 X492 = true := by kernel_rfl
noncomputable def X493 : FX := ⟨Go.Proofs.Tryz.f493, []⟩
theorem xok493 : okO T0 X493 = true := by kernel_rfl
noncomputable def X494 : FX := ⟨Go.Proofs.Tryz.f494, []⟩
theorem xok494 : okO T0 X494 = true := by kernel_rfl
noncomputable def X496 : FX := ⟨Go.Proofs.Tryz.f496, []⟩
theorem xok496 : okO T0 X496 = true := by kernel_rfl
noncomputable def X497 : FX := ⟨Go.Proofs.Tryz.f497, []⟩
theorem xok497 : okO T0 X497 = true := by kernel_rfl
noncomputable def X498 : FX := ⟨Go.Proofs.Tryz.f498, []⟩
theorem xok498 : okO T0 X498 = true := by kernel_rfl
noncomputable def X499 : FX := ⟨Go.Proofs.Tryz.f499, []⟩
theorem xok499 : okO T0 X499 = true := by kernel_rfl
noncomputable def X500 : FX := ⟨Go.Proofs.Tryz.f500, []⟩
theorem xok500 : okO T0 X500 = true := by kernel_rfl
noncomputable def X501 : FX := ⟨Go.Proofs.Tryz.f501, [(7, (.step 0 true (.step 1 true (.step 2 true (.step 3 true (.step 4 true (.step 5 true (.step 6 true (.step 7 true (.step 8 true (.step 9 true (.step 10 true (.step 11 true (.step 12 false (.step 13 true (.step 14 false .done)))))))))))))))), (8, (.step 0 true (.step 1 true (.step 2 true (.step 3 true (.step 4 true (.step 5 true (.step 6 true (.step 7 true (.step 8 true (.step 9 true (.step 10 true (.step 11 true (.step 12 false (.step 13 true (.step 14 false .done)))))))))))))))), (9, (.step 0 true (.step 1 true (.step 2 true (.step 3 true (.step 4 true (.step 5 true (.step 6 true (.step 7 true (.step 8 true (.step 9 true (.step 10 true (.step 11 true (.step 12 false (.step 13 true (.step 14 false .done)))))))))))))))), (10, (.step 0 true (.step 1 true (.step 2 true (.step 3 true (.step 4 true (.step 5 true (.step 6 true (.step 7 true (.step 8 true (.step 9 true (.step 10 true (.step 11 true (.step 12 false (.step 13 true (.step 14 false .done)))))))))))))))), (17, (.step 0 true (.step 1 true (.step 2 true (.step 3 true (.step 4 true (.step 5 true (.step 6 true (.step 7 true (.step 8 true (.step 9 true (.step 10 true (.step 11 true (.step 12 false (.step 13 true (.step 14 false .done)))))))))))))))), (18, (.step 0 true (.step 1 true (.step 2 true (.step 3 true (.step 4 true (.step 5 true (.step 6 true (.step 7 true (.step 8 true (.step 9 true (.step 10 true (.step 11 true (.step 12 false (.step 13 true (.step 14 false .done)))))))))))))))), (23, (.step 0 true (.step 1 true (.step 2 true (.step 3 true (.step 4 true (.step 5 true (.step 6 true (.step 7 true (.step 8 true (.step 9 true (.step 10 true (.step 11 true (.step 12 false (.step 13 true (.step 14 false .done))))))))))))))))]⟩
theorem xok501 : okO T0 X501 = true := by kernel_rfl
noncomputable def X502 : FX := ⟨Go.Proofs.Tryz.f502, []⟩
theorem xok502 : okO T0 X502 = true := by kernel_rfl
noncomputable def X503 : FX := ⟨Go.Proofs.Tryz.f503, []⟩
theorem xok503 : okO T0 X503 = true := by kernel_rfl
noncomputable def X505 : FX := ⟨Go.Proofs.Tryz.f505, []⟩
theorem xok505 : okO T0 X505 = true := by kernel_rfl
noncomputable def X506 : FX := ⟨Go.Proofs.Tryz.f506, []⟩
theorem xok506 : okO T0 X506 = true := by kernel_rfl
noncomputable def X507 : FX := ⟨Go.Proofs.Tryz.f507, []⟩
theorem xok507 : okO T0 X507 = true := by kernel_rfl
noncomputable def X508 : FX := ⟨Go.Proofs.Tryz.f508, []⟩
theorem xok508 : okO T0 X508 = true := by kernel_rfl
noncomputable def X509 : FX := ⟨Go.Proofs.Tryz.f509, []⟩
theorem xok509 : okO T0 X509 = true := by kernel_rfl
noncomputable def X510 : FX := ⟨Go.Proofs.Tryz.f510, []⟩
theorem xok510 : okO T0 X510 = true := by kernel_rfl
noncomputable def X511 : FX := ⟨Go.Proofs.Tryz.f511, []⟩
theorem xok511 : okO T0 X511 = true := by kernel_rfl
noncomputable def X512 : FX := ⟨Go.Proofs.Tryz.f512, []⟩
theorem xok512 : okO T0 X512 = true := by kernel_rfl
noncomputable def X513 : FX := ⟨Go.Proofs.Tryz.f513, []⟩
theorem xok513 : okO T0 X513 = true := by kernel_rfl
noncomputable def X514 : FX := ⟨Go.Proofs.Tryz.f514, []⟩
theorem xok514 : okO T0 X514 = true := by kernel_rfl
noncomputable def X515 : FX := ⟨Go.Proofs.Tryz.f515, []⟩
theorem xok515 : okO T0 X515 = true := by kernel_rfl
noncomputable def X516 : FX := ⟨Go.Proofs.Tryz.f516, []⟩
theorem xok516 : okO T0 X516 = true := by kernel_rfl
noncomputable def X517 : FX := ⟨Go.Proofs.Tryz.f517, []⟩
theorem xok517 : okO T0 X517 = true := by kernel_rfl
noncomputable def X518 : FX := ⟨Go.Proofs.Tryz.f518, []⟩
theorem xok518 : okO T0 X518 = true := by kernel_rfl
noncomputable def X519 : FX := ⟨Go.Proofs.Tryz.f519, []⟩
theorem xok519 : okO T0 X519 = true := by kernel_rfl
noncomputable def X520 : FX := ⟨Go.Proofs.Tryz.f520, [(2, (.step 0 true (.step 1 true (.step 2 true (.step 3 true (.step 4 true (.step 5 true (.step 6 true (.step 7 true (.step 8 true (.step 9 true (.step 10 false (.step 11 true .done)))))))))))))]⟩
theorem xok520 : okO T0 X520 = true := by kernel_rfl
noncomputable def X521 : FX := ⟨Go.Proofs.Tryz.f521, []⟩
theorem xok521 : okO T0 X521 = true := by kernel_rfl
noncomputable def X522 : FX := ⟨Go.Proofs.Tryz.f522, []⟩
theorem xok522 : okO T0 X522 = true := by kernel_rfl
noncomputable def X523 : FX := ⟨Go.Proofs.Tryz.f523, []⟩
theorem xok523 : okO T0 X523 = true := by kernel_rfl
noncomputable def X524 : FX := ⟨Go.Proofs.Tryz.f524, []⟩
theorem xok524 : okO T0 X524 = true := by kernel_rfl
noncomputable def X525 : FX := ⟨Go.Proofs.Tryz.f525, [(1, (.step 0 true (.step 1 true (.step 2 true (.step 3 true (.step 4 true (.step 5 true (.step 6 true (.step 7 true (.step 8 true .done))))))))))]⟩
theorem xok525 : okO T0 X525 = true := by kernel_rfl
noncomputable def X526 : FX := ⟨Go.Proofs.Tryz.f526, []⟩
theorem xok526 : okO T0 X526 = true := by kernel_rfl
noncomputable def X527 : FX := ⟨Go.Proofs.Tryz.f527, [(1, (.step 0 true (.step 1 true (.step 2 true (.step 3 true (.step 4 true (.step 5 true (.step 6 true (.step 7 true (.step 8 true (.step 9 true (.step 12 true (.step 13 true (.step 14 true (.step 15 true (.step 16 true (.step 10 true (.step 11 true (.step 17 false (.step 18 true .done))))))))))))))))))))]⟩
theorem xok527 : okO T0 X527 = true := by kernel_rfl
noncomputable def X528 : FX := ⟨Go.Proofs.Tryz.f528, []⟩
theorem xok528 : okO T0 X528 = true := by kernel_rfl
noncomputable def X529 : FX := ⟨Go.Proofs.Tryz.f529, []⟩
theorem xok529 : okO T0 X529 = true := by kernel_rfl
noncomputable def X530 : FX := ⟨Go.Proofs.Tryz.f530, []⟩
theorem xok530 : okO T0 X530 = true := by kernel_rfl
noncomputable def X531 : FX := ⟨Go.Proofs.Tryz.f531, [(3, (.step 0 true (.step 1 true (.step 2 true (.step 3 true (.step 4 true (.step 5 true (.step 6 true (.step 7 true (.step 8 true (.step 9 true (.step 10 true (.step 11 true (.step 12 true (.step 13 true (.step 14 true (.step 15 true (.step 16 true (.step 17 true (.step 18 true .done))))))))))))))))))))]⟩
theorem xok531 : okO T0 X531 = true := by kernel_rfl
noncomputable def X532 : FX := ⟨Go.Proofs.Tryz.f532, []⟩
theorem xok532 : okO T0 X532 = true := by kernel_rfl
noncomputable def X533 : FX := ⟨Go.Proofs.Tryz.f533, []⟩
theorem xok533 : okO T0 X533 = true := by kernel_rfl
noncomputable def X534 : FX := ⟨Go.Proofs.Tryz.f534, []⟩
theorem xok534 : okO T0 X534 = true := by kernel_rfl
noncomputable def X535 : FX := ⟨Go.Proofs.Tryz.f535, []⟩
theorem xok535 : okO T0 X535 = true := by kernel_rfl
noncomputable def X536 : FX := ⟨Go.Proofs.Tryz.f536, []⟩
theorem xok536 : okO T0 X536 = true := by kernel_rfl
noncomputable def X537 : FX := ⟨Go.Proofs.Tryz.f537, [(3, (.step 0 true (.step 1 true (.step 2 true (.step 3 true (.step 4 true (.step 5 true (.step 6 true (.step 7 true (.step 8 true (.step 9 true (.step 10 true (.step 11 true .done)))))))))))))]⟩
theorem xok537 : okO T0 X537 = true := by kernel_rfl
noncomputable def X538 : FX := ⟨Go.Proofs.Tryz.f538, []⟩
theorem xok538 : okO T0 X538 = true := by kernel_rfl
noncomputable def X539 : FX := ⟨Go.Proofs.Tryz.f539, [(6, (.step 0 true (.step 1 true (.step 2 true (.step 3 true (.step 4 true (.step 5 true (.step 6 true .done)))))))), (7, (.step 0 true (.step 1 true (.step 2 true (.step 3 true (.step 4 true (.step 5 true (.step 6 true (.step 7 false (.step 8 true .done)))))))))), (14, (.step 0 true (.step 1 true (.step 2 true (.step 3 true (.step 4 true (.step 5 true (.step 6 true (.step 7 true (.step 8 true (.step 9 true (.step 10 true .done)))))))))))), (31, (.step 0 true (.step 1 true (.step 2 true (.step 3 true (.step 4 true (.step 5 true (.step 6 true (.step 7 true (.step 8 true (.step 9 true (.step 10 true .done))))))))))))]⟩
theorem xok539 : okO T0 X539 = true := by kernel_rfl
noncomputable def X540 : FX := ⟨Go.Proofs.Tryz.f540, []⟩
theorem xok540 : okO T0 X540 = true := by kernel_rfl
noncomputable def X541 : FX := ⟨Go.Proofs.Tryz.f541, [(3, (.step 0 true (.step 1 true (.step 2 true (.step 3 true (.step 4 true (.step 5 true (.step 6 true (.step 7 true (.step 8 true (.step 9 true (.step 10 true (.step 11 true (.step 12 true (.step 13 true (.step 14 true (.step 15 true (.step 16 true (.step 17 true (.step 18 true (.step 19 true (.step 20 true (.step 21 false (.step 22 true (.step 23 false .done)))))))))))))))))))))))))]⟩
theorem xok541 : okO T0 X541 = true := by kernel_rfl
noncomputable def X542 : FX := ⟨Go.Proofs.Tryz.f542, []⟩
theorem xok542 : okO T0 X542 = true := by kernel_rfl
noncomputable def X543 : FX := ⟨Go.Proofs.Tryz.f543, []⟩
theorem xok543 : okO T0 X543 = true := by kernel_rfl
noncomputable def X544 : FX := ⟨Go.Proofs.Tryz.f544, []⟩
theorem xok544 : okO T0 X544 = true := by kernel_rfl
noncomputable def X545 : FX := ⟨Go.Proofs.Tryz.f545, []⟩
theorem xok545 : okO T0 X545 = true := by kernel_rfl
noncomputable def X546 : FX := ⟨Go.Proofs.Tryz.f546, []⟩
theorem xok546 : okO T0 X546 = true := by kernel_rfl
noncomputable def X547 : FX := ⟨Go.Proofs.Tryz.f547, []⟩
theorem xok547 : okO T0 X547 = true := by kernel_rfl
noncomputable def X548 : FX := ⟨Go.Proofs.Tryz.f548, []⟩
theorem xok548 : okO T0 X548 = true := by kernel_rfl
noncomputable def X549 : FX := ⟨Go.Proofs.Tryz.f549, []⟩
theorem xok549 : okO T0 X549 = true := by kernel_rfl
noncomputable def X550 : FX := ⟨Go.Proofs.Tryz.f550, []⟩
theorem xok550 : okO T0 X550 = true := by kernel_rfl
noncomputable def X551 : FX := ⟨Go.Proofs.Tryz.f551, []⟩
theorem xok551 : okO T0 X551 = true := by kernel_rfl
noncomputable def X552 : FX := ⟨Go.Proofs.Tryz.f552, []⟩
theorem xok552 : okO T0 X552 = true := by kernel_rfl
noncomputable def X553 : FX := ⟨Go.Proofs.Tryz.f553, []⟩
theorem xok553 : okO T0 X553 = true := by kernel_rfl
noncomputable def X554 : FX := ⟨Go.Proofs.Tryz.f554, []⟩
theorem xok554 : okO T0 X554 = true := by kernel_rfl
noncomputable def X556 : FX := ⟨Go.Proofs.Tryz.f556, [(2, (.step 0 true (.step 1 true (.step 2 true (.step 3 true (.step 4 true (.step 5 true (.step 6 true (.step 7 true (.step 8 true (.step 9 true (.step 10 true (.step 11 true (.step 12 false .done))))))))))))))]⟩
theorem xok556 : okO T0 X556 = true := by kernel_rfl
noncomputable def X557 : FX := ⟨Go.Proofs.Tryz.f557, []⟩
theorem xok557 : okO T0 X557 = true := by kernel_rfl
noncomputable def X558 : FX := ⟨Go.Proofs.Tryz.f558, []⟩
theorem xok558 : okO T0 X558 = true := by kernel_rfl
noncomputable def X559 : FX := ⟨Go.Proofs.Tryz.f559, []⟩
theorem xok559 : okO T0 X559 = true := by kernel_rfl
noncomputable def X560 : FX := ⟨Go.Proofs.Tryz.f560, []⟩
theorem xok560 : okO T0 X560 = true := by kernel_rfl
noncomputable def X561 : FX := ⟨Go.Proofs.Tryz.f561, []⟩
theorem xok561 : okO T0 X561 = true := by kernel_rfl
noncomputable def X562 : FX := ⟨Go.Proofs.Tryz.f562, []⟩
theorem xok562 : okO T0 X562 = true := by kernel_rfl
noncomputable def X563 : FX := ⟨Go.Proofs.Tryz.f563, [(2, (.step 0 true (.step 1 true (.step 2 true (.step 3 true (.step 4 true (.step 5 true (.step 6 true (.step 7 true (.step 8 true (.step 9 true (.step 10 true (.step 11 true (.step 12 true (.step 13 true (.step 14 true (.step 15 true (.step 16 true (.step 17 true (.step 18 true (.step 19 true (.step 20 true (.step 21 true (.step 22 true (.step 23 true (.step 24 true (.step 25 true (.step 26 true (.step 27 true (.step 28 true (.step 29 true (.step 30 true (.step 31 true (.step 32 true (.step 33 true (.step 34 true (.step 35 true (.step 36 true (.step 37 true (.step 38 true (.step 39 true (.step 40 true (.step 41 true (.step 42 true (.step 43 true (.step 44 true (.step 45 true .done))))))))))))))))))))))))))))))))))))))))))))))), (5, (.step 0 true (.step 1 true (.step 2 true (.step 3 true (.step 4 true (.step 5 true (.step 6 true (.step 7 true (.step 8 true (.step 9 true (.step 10 false (.step 11 true (.step 12 true (.step 13 true (.step 14 true (.step 15 true .done)))))))))))))))))]⟩
theorem xok563 : okO T0 X563 = true := by kernel_rfl
noncomputable def X564 : FX := ⟨Go.Proofs.Tryz.f564, []⟩
theorem xok564 : okO T0 X564 = true := by kernel_rfl
noncomputable def X565 : FX := ⟨Go.Proofs.Tryz.f565, []⟩
theorem xok565 : okO T0 X565 = true := by kernel_rfl
noncomputable def X566 : FX := ⟨Go.Proofs.Tryz.f566, []⟩
theorem xok566 : okO T0 X566 = true := by kernel_rfl
noncomputable def X567 : FX := ⟨Go.Proofs.Tryz.f567, [(1, (.step 0 true (.step 1 true (.step 2 true (.step 3 true (.step 4 true (.step 5 true (.step 6 true (.step 7 true (.step 8 true (.step 9 true (.step 10 true (.step 11 true .done))))))))))))), (32, (.step 0 true (.step 1 true (.step 2 true (.step 3 true (.step 4 true (.step 5 true (.step 6 true (.step 7 true (.step 8 true (.step 9 true (.step 10 true (.step 11 true (.step 12 true (.step 13 true (.step 14 true (.step 15 true (.step 16 true (.step 17 true (.step 18 true (.step 19 true (.step 20 true (.step 21 true .done))))))))))))))))))))))), (34, (.step 0 true (.step 1 true (.step 2 true (.step 3 true (.step 4 true (.step 5 true (.step 6 true (.step 7 true (.step 8 true (.step 9 true (.step 10 true (.step 11 true (.step 12 true .done))))))))))))))]⟩
theorem xok567 : okO T0 X567 = true := by kernel_rfl
noncomputable def X568 : FX := ⟨Go.Proofs.Tryz.f568, []⟩
theorem xok568 : okO T0 X568 = true := by kernel_rfl
noncomputable def X570 : FX := ⟨Go.Proofs.Tryz.f570, []⟩
theorem xok570 : okO T0 X570 = true := by kernel_rfl
noncomputable def X571 : FX := ⟨Go.Proofs.Tryz.f571, []⟩
theorem xok571 : okO T0 X571 = true := by kernel_rfl
noncomputable def X572 : FX := ⟨Go.Proofs.Tryz.f572, [(25, (.step 0 true (.step 1 true (.step 2 true (.step 3 true (.step 4 true (.step 5 true (.step 6 true (.step 7 true (.step 8 true (.step 9 true (.step 10 true (.step 11 false .done)))))))))))))]⟩
theorem xok572 : okO T0 X572 = true := by kernel_rfl
noncomputable def X573 : FX := ⟨Go.Proofs.Tryz.f573, [(13, (.step 0 true (.step 1 true (.step 2 true (.step 3 true (.step 4 true (.step 5 true (.step 6 true .done)))))))), (15, (.step 0 true (.step 1 true (.step 2 true (.step 3 true (.step 4 true (.step 5 true (.step 6 true (.step 7 true .done))))))))), (20, (.step 0 true (.step 1 true (.step 2 true (.step 3 true (.step 4 true (.step 5 true (.step 6 true (.step 7 true .done))))))))), (22, (.step 0 true (.step 1 true (.step 2 true (.step 3 true (.step 4 true (.step 5 true (.step 6 true (.step 7 true (.step 8 true .done)))))))))), (30, (.step 0 true (.step 1 true (.step 2 true (.step 3 true (.step 4 true (.step 5 true (.step 6 true (.step 7 true (.step 8 true (.step 9 true (.step 10 true (.step 11 true (.step 12 true .done)))))))))))))), (36, (.step 0 true (.step 1 true (.step 2 true (.step 3 true (.step 4 true (.step 5 true (.step 6 true (.step 7 true (.step 8 true (.step 9 true (.step 10 true (.step 11 true (.step 12 true .done)))))))))))))), (40, (.step 0 true (.step 1 true (.step 2 true (.step 3 true (.step 4 true (.step 5 true (.step 6 true (.step 7 true (.step 8 true (.step 9 true (.step 10 true (.step 11 true .done))))))))))))), (43, (.step 0 true (.step 1 true (.step 2 true (.step 3 true (.step 4 true (.step 5 true (.step 6 true (.step 7 true (.step 8 true (.step 9 true (.step 10 true (.step 11 true (.step 12 true (.step 13 true (.step 14 true (.step 15 true (.step 16 true (.step 17 true (.step 18 true (.step 19 true (.step 20 true (.step 21 true .done))))))))))))))))))))))), (45, (.step 0 true (.step 1 true (.step 2 true (.step 3 true (.step 4 true (.step 5 true (.step 6 true (.step 7 true (.step 8 true (.step 9 true (.step 10 true (.step 11 true (.step 12 true .done))))))))))))))]⟩
theorem xok573 : okO T0 X573 = true := by kernel_rfl
noncomputable def X574 : FX := ⟨Go.Proofs.Tryz.f574, []⟩
theorem xok574 : okO T0 X574 = true := by kernel_rfl
noncomputable def X576 : FX := ⟨Go.Proofs.Tryz.f576, []⟩
theorem xok576 : okO T0 X576 = true := by kernel_rfl
noncomputable def X577 : FX := ⟨Go.Proofs.Tryz.f577, []⟩
theorem xok577 : okO T0 X577 = true := by kernel_rfl
noncomputable def X578 : FX := ⟨Go.Proofs.Tryz.f578, []⟩
theorem xok578 : okO T0 X578 = true := by kernel_rfl
noncomputable def X579 : FX := ⟨Go.Proofs.Tryz.f579, []⟩
theorem xok579 : okO T0 X579 = true := by kernel_rfl
noncomputable def X580 : FX := ⟨Go.Proofs.Tryz.f580, []⟩
theorem xok580 : okO T0 X580 = true := by kernel_rfl
noncomputable def X581 : FX := ⟨Go.Proofs.Tryz.f581, []⟩
theorem xok581 : okO T0 X581 = true := by kernel_rfl
noncomputable def X582 : FX := ⟨Go.Proofs.Tryz.f582, []⟩
theorem xok582 : okO T0 X582 = true := by kernel_rfl
noncomputable def X583 : FX := ⟨Go.Proofs.Tryz.f583, []⟩
theorem xok583 : okO T0 X583 = true := by kernel_rfl
noncomputable def X584 : FX := ⟨Go.Proofs.Tryz.f584, []⟩
theorem xok584 : okO T0 X584 = true := by kernel_rfl
noncomputable def X585 : FX := ⟨Go.Proofs.Tryz.f585, []⟩
theorem xok585 : okO T0 X585 = true := by kernel_rfl
noncomputable def X586 : FX := ⟨Go.Proofs.Tryz.f586, [(7, (.step 0 true (.step 1 true (.step 2 true (.step 3 true (.step 4 true (.step 5 true (.step 6 true (.step 7 false (.step 8 true (.step 9 true .done)))))))))))]⟩
theorem xok586 : okO T0 X586 = true := by kernel_rfl
noncomputable def X587 : FX := ⟨Go.Proofs.Tryz.f587, []⟩
theorem xok587 : okO T0 X587 = true := by kernel_rfl
noncomputable def X588 : FX := ⟨Go.Proofs.Tryz.f588, []⟩
theorem xok588 : okO T0 X588 = true := by kernel_rfl
noncomputable def X589 : FX := ⟨Go.Proofs.Tryz.f589, []⟩
theorem xok589 : okO T0 X589 = true := by kernel_rfl
noncomputable def X590 : FX := ⟨Go.Proofs.Tryz.f590, []⟩
theorem xok590 : okO T0 X590 = true := by kernel_rfl
noncomputable def X591 : FX := ⟨Go.Proofs.Tryz.f591, []⟩
theorem xok591 : okO T0 X591 = true := by kernel_rfl
noncomputable def X592 : FX := ⟨Go.Proofs.Tryz.f592, []⟩
theorem xok592 : okO T0 X592 = true := by kernel_rfl
noncomputable def X593 : FX := ⟨Go.Proofs.Tryz.f593, [(1, (.step 0 true (.step 1 true (.step 2 true (.step 3 true (.step 4 true (.step 5 true (.step 6 true (.step 7 true (.step 8 true (.step 9 true (.step 10 true (.step 11 true (.step 12 true (.step 13 false .done)))))))))))))))]⟩
theorem xok593 : okO T0 X593 = true := by kernel_rfl
noncomputable def X594 : FX := ⟨Go.Proofs.Tryz.f594, []⟩
theorem xok594 : okO T0 X594 = true := by kernel_rfl
noncomputable def X595 : FX := ⟨Go.Proofs.Tryz.f595, []⟩
theorem xok595 : okO T0 X595 = true := by kernel_rfl
noncomputable def X596 : FX := ⟨Go.Proofs.Tryz.f596, [(6, (.step 0 true (.step 1 true (.step 2 true (.step 3 true (.step 4 true (.step 5 true (.step 6 true (.step 7 true .done))))))))), (7, (.step 0 true (.step 1 true (.step 2 true (.step 3 true (.step 4 true (.step 5 true (.step 6 true (.step 7 true (.step 8 true .done))))))))))]⟩
theorem xok596 : okO T0 X596 = true := by kernel_rfl
noncomputable def X597 : FX := ⟨Go.Proofs.Tryz.f597, [(0, (.step 0 true (.step 1 true (.step 2 true (.step 3 true (.step 4 true (.step 5 true (.step 6 true (.step 7 true (.step 8 true (.step 9 true (.step 10 true (.step 11 true (.step 12 true (.step 13 true (.step 14 true (.step 15 true (.step 16 true (.step 17 true .done)))))))))))))))))))]⟩
theorem xok597 : okO T0 X597 = true := by kernel_rfl
noncomputable def X642 : FX := ⟨Go.Proofs.Tryz.f642, []⟩
theorem xok642 : okO T0 X642 = true := by kernel_rfl
noncomputable def xtab : FXT := (.n 297 (.n 149 (.n 74 (.n 38 (.n 20 (.n 11 (.n 6 (.n 4 (.n 3 (.l 2 X2) (.l 3 X3)) (.n 5 (.l 4 X4) (.l 5 X5))) (.n 8 (.n 7 (.l 6 X6) (.l 7 X7)) (.n 9 (.l 8 X8) (.n 10 (.l 9 X9) (.l 10 X10))))) (.n 15 (.n 13 (.n 12 (.l 11 X11) (.l 12 X12)) (.n 14 (.l 13 X13) (.l 14 X14))) (.n 17 (.n 16 (.l 15 X15) (.l 16 X16)) (.n 18 (.l 17 X17) (.n 19 (.l 18 X18) (.l 19 X19)))))) (.n 29 (.n 24 (.n 22 (.n 21 (.l 20 X20) (.l 21 X21)) (.n 23 (.l 22 X22) (.l 23 X23))) (.n 26 (.n 25 (.l 24 X24) (.l 25 X25)) (.n 27 (.l 26 X26) (.n 28 (.l 27 X27) (.l 28 X28))))) (.n 33 (.n 31 (.n 30 (.l 29 X29) (.l 30 X30)) (.n 32 (.l 31 X31) (.l 32 X32))) (.n 35 (.n 34 (.l 33 X33) (.l 34 X34)) (.n 36 (.l 35 X35) (.n 37 (.l 36 X36) (.l 37 X37))))))) (.n 56 (.n 47 (.n 42 (.n 40 (.n 39 (.l 38 X38) (.l 39 X39)) (.n 41 (.l 40 X40) (.l 41 X41))) (.n 44 (.n 43 (.l 42 X42) (.l 43 X43)) (.n 45 (.l 44 X44) (.n 46 (.l 45 X45) (.l 46 X46))))) (.n 51 (.n 49 (.n 48 (.l 47 X47) (.l 48 X48)) (.n 50 (.l 49 X49) (.l 50 X50))) (.n 53 (.n 52 (.l 51 X51) (.l 52 X52)) (.n 54 (.l 53 X53) (.n 55 (.l 54 X54) (.l 55 X55)))))) (.n 65 (.n 60 (.n 58 (.n 57 (.l 56 X56) (.l 57 X57)) (.n 59 (.l 58 X58) (.l 59 X59))) (.n 62 (.n 61 (.l 60 X60) (.l 61 X61)) (.n 63 (.l 62 X62) (.n 64 (.l 63 X63) (.l 64 X64))))) (.n 69 (.n 67 (.n 66 (.l 65 X65) (.l 66 X66)) (.n 68 (.l 67 X67) (.l 68 X68))) (.n 71 (.n 70 (.l 69 X69) (.l 70 X70)) (.n 72 (.l 71 X71) (.n 73 (.l 72 X72) (.l 73 X73)))))))) (.n 112 (.n 93 (.n 84 (.n 79 (.n 77 (.n 75 (.l 74 X74) (.l 75 X75)) (.n 78 (.l 77 X77) (.l 78 X78))) (.n 81 (.n 80 (.l 79 X79) (.l 80 X80)) (.n 82 (.l 81 X81) (.n 83 (.l 82 X82) (.l 83 X83))))) (.n 88 (.n 86 (.n 85 (.l 84 X84) (.l 85 X85)) (.n 87 (.l 86 X86) (.l 87 X87))) (.n 90 (.n 89 (.l 88 X88) (.l 89 X89)) (.n 91 (.l 90 X90) (.n 92 (.l 91 X91) (.l 92 X92)))))) (.n 102 (.n 97 (.n 95 (.n 94 (.l 93 X93) (.l 94 X94)) (.n 96 (.l 95 X95) (.l 96 X96))) (.n 99 (.n 98 (.l 97 X97) (.l 98 X98)) (.n 100 (.l 99 X99) (.n 101 (.l 100 X100) (.l 101 X101))))) (.n 106 (.n 104 (.n 103 (.l 102 X102) (.l 103 X103)) (.n 105 (.l 104 X104) (.l 105 X105))) (.n 108 (.n 107 (.l 106 X106) (.l 107 X107)) (.n 109 (.l 108 X108) (.n 110 (.l 109 X109) (.l 110 X110))))))) (.n 130 (.n 121 (.n 116 (.n 114 (.n 113 (.l 112 X112) (.l 113 X113)) (.n 115 (.l 114 X114) (.l 115 X115))) (.n 118 (.n 117 (.l 116 X116) (.l 117 X117)) (.n 119 (.l 118 X118) (.n 120 (.l 119 X119) (.l 120 X120))))) (.n 125 (.n 123 (.n 122 (.l 121 X121) (.l 122 X122)) (.n 124 (.l 123 X123) (.l 124 X124))) (.n 127 (.n 126 (.l 125 X125) (.l 126 X126)) (.n 128 (.l 127 X127) (.n 129 (.l 128 X128) (.l 129 X129)))))) (.n 139 (.n 134 (.n 132 (.n 131 (.l 130 X130) (.l 131 X131)) (.n 133 (.l 132 X132) (.l 133 X133))) (.n 136 (.n 135 (.l 134 X134) (.l 135 X135)) (.n 137 (.l 136 X136) (.n 138 (.l 137 X137) (.l 138 X138))))) (.n 144 (.n 141 (.n 140 (.l 139 X139) (.l 140 X140)) (.n 142 (.l 141 X141) (.n 143 (.l 142 X142) (.l 143 X143)))) (.n 146 (.n 145 (.l 144 X144) (.l 145 X145)) (.n 147 (.l 146 X146) (.n 148 (.l 147 X147) (.l 148 X148))))))))) (.n 223 (.n 186 (.n 168 (.n 159 (.n 154 (.n 152 (.n 151 (.l 149 X149) (.l 151 X151)) (.n 153 (.l 152 X152) (.l 153 X153))) (.n 156 (.n 155 (.l 154 X154) (.l 155 X155)) (.n 157 (.l 156 X156) (.n 158 (.l 157 X157) (.l 158 X158))))) (.n 163 (.n 161 (.n 160 (.l 159 X159) (.l 160 X160)) (.n 162 (.l 161 X161) (.l 162 X162))) (.n 165 (.n 164 (.l 163 X163) (.l 164 X164)) (.n 166 (.l 165 X165) (.n 167 (.l 166 X166) (.l 167 X167)))))) (.n 177 (.n 172 (.n 170 (.n 169 (.l 168 X168) (.l 169 X169)) (.n 171 (.l 170 X170) (.l 171 X171))) (.n 174 (.n 173 (.l 172 X172) (.l 173 X173)) (.n 175 (.l 174 X174) (.n 176 (.l 175 X175) (.l 176 X176))))) (.n 181 (.n 179 (.n 178 (.l 177 X177) (.l 178 X178)) (.n 180 (.l 179 X179) (.l 180 X180))) (.n 183 (.n 182 (.l 181 X181) (.l 182 X182)) (.n 184 (.l 183 X183) (.n 185 (.l 184 X184) (.l 185 X185))))))) (.n 204 (.n 195 (.n 190 (.n 188 (.n 187 (.l 186 X186) (.l 187 X187)) (.n 189 (.l 188 X188) (.l 189 X189))) (.n 192 (.n 191 (.l 190 X190) (.l 191 X191)) (.n 193 (.l 192 X192) (.n 194 (.l 193 X193) (.l 194 X194))))) (.n 199 (.n 197 (.n 196 (.l 195 X195) (.l 196 X196)) (.n 198 (.l 197 X197) (.l 198 X198))) (.n 201 (.n 200 (.l 199 X199) (.l 200 X200)) (.n 202 (.l 201 X201) (.n 203 (.l 202 X202) (.l 203 X203)))))) (.n 213 (.n 208 (.n 206 (.n 205 (.l 204 X204) (.l 205 X205)) (.n 207 (.l 206 X206) (.l 207 X207))) (.n 210 (.n 209 (.l 208 X208) (.l 209 X209)) (.n 211 (.l 210 X210) (.n 212 (.l 211 X211) (.l 212 X212))))) (.n 218 (.n 215 (.n 214 (.l 213 X213) (.l 214 X214)) (.n 216 (.l 215 X215) (.n 217 (.l 216 X216) (.l 217 X217)))) (.n 220 (.n 219 (.l 218 X218) (.l 219 X219)) (.n 221 (.l 220 X220) (.n 222 (.l 221 X221) (.l 222 X222)))))))) (.n 260 (.n 241 (.n 232 (.n 227 (.n 225 (.n 224 (.l 223 X223) (.l 224 X224)) (.n 226 (.l 225 X225) (.l 226 X226))) (.n 229 (.n 228 (.l 227 X227) (.l 228 X228)) (.n 230 (.l 229 X229) (.n 231 (.l 230 X230) (.l 231 X231))))) (.n 236 (.n 234 (.n 233 (.l 232 X232) (.l 233 X233)) (.n 235 (.l 234 X234) (.l 235 X235))) (.n 238 (.n 237 (.l 236 X236) (.l 237 X237)) (.n 239 (.l 238 X238) (.n 240 (.l 239 X239) (.l 240 X240)))))) (.n 250 (.n 245 (.n 243 (.n 242 (.l 241 X241) (.l 242 X242)) (.n 244 (.l 243 X243) (.l 244 X244))) (.n 247 (.n 246 (.l 245 X245) (.l 246 X246)) (.n 248 (.l 247 X247) (.n 249 (.l 248 X248) (.l 249 X249))))) (.n 254 (.n 252 (.n 251 (.l 250 X250) (.l 251 X251)) (.n 253 (.l 252 X252) (.l 253 X253))) (.n 256 (.n 255 (.l 254 X254) (.l 255 X255)) (.n 257 (.l 256 X256) (.n 258 (.l 257 X257) (.l 258 X258))))))) (.n 278 (.n 269 (.n 264 (.n 262 (.n 261 (.l 260 X260) (.l 261 X261)) (.n 263 (.l 262 X262) (.l 263 X263))) (.n 266 (.n 265 (.l 264 X264) (.l 265 X265)) (.n 267 (.l 266 X266) (.n 268 (.l 267 X267) (.l 268 X268))))) (.n 273 (.n 271 (.n 270 (.l 269 X269) (.l 270 X270)) (.n 272 (.l 271 X271) (.l 272 X272))) (.n 275 (.n 274 (.l 273 X273) (.l 274 X274)) (.n 276 (.l 275 X275) (.n 277 (.l 276 X276) (.l 277 X277)))))) (.n 287 (.n 282 (.n 280 (.n 279 (.l 278 X278) (.l 279 X279)) (.n 281 (.l 280 X280) (.l 281 X281))) (.n 284 (.n 283 (.l 282 X282) (.l 283 X283)) (.n 285 (.l 284 X284) (.n 286 (.l 285 X285) (.l 286 X286))))) (.n 292 (.n 289 (.n 288 (.l 287 X287) (.l 288 X288)) (.n 290 (.l 289 X289) (.n 291 (.l 290 X290) (.l 291 X291)))) (.n 294 (.n 293 (.l 292 X292) (.l 293 X293)) (.n 295 (.l 294 X294) (.n 296 (.l 295 X295) (.l 296 X296)))))))))) (.n 446 (.n 370 (.n 333 (.n 315 (.n 306 (.n 301 (.n 299 (.n 298 (.l 297 X297) (.l 298 X298)) (.n 300 (.l 299 X299) (.l 300 X300))) (.n 303 (.n 302 (.l 301 X301) (.l 302 X302)) (.n 304 (.l 303 X303) (.n 305 (.l 304 X304) (.l 305 X305))))) (.n 310 (.n 308 (.n 307 (.l 306 X306) (.l 307 X307)) (.n 309 (.l 308 X308) (.l 309 X309))) (.n 312 (.n 311 (.l 310 X310) (.l 311 X311)) (.n 313 (.l 312 X312) (.n 314 (.l 313 X313) (.l 314 X314)))))) (.n 324 (.n 319 (.n 317 (.n 316 (.l 315 X315) (.l 316 X316)) (.n 318 (.l 317 X317) (.l 318 X318))) (.n 321 (.n 320 (.l 319 X319) (.l 320 X320)) (.n 322 (.l 321 X321) (.n 323 (.l 322 X322) (.l 323 X323))))) (.n 328 (.n 326 (.n 325 (.l 324 X324) (.l 325 X325)) (.n 327 (.l 326 X326) (.l 327 X327))) (.n 330 (.n 329 (.l 328 X328) (.l 329 X329)) (.n 331 (.l 330 X330) (.n 332 (.l 331 X331) (.l 332 X332))))))) (.n 351 (.n 342 (.n 337 (.n 335 (.n 334 (.l 333 X333) (.l 334 X334)) (.n 336 (.l 335 X335) (.l 336 X336))) (.n 339 (.n 338 (.l 337 X337) (.l 338 X338)) (.n 340 (.l 339 X339) (.n 341 (.l 340 X340) (.l 341 X341))))) (.n 346 (.n 344 (.n 343 (.l 342 X342) (.l 343 X343)) (.n 345 (.l 344 X344) (.l 345 X345))) (.n 348 (.n 347 (.l 346 X346) (.l 347 X347)) (.n 349 (.l 348 X348) (.n 350 (.l 349 X349) (.l 350 X350)))))) (.n 360 (.n 355 (.n 353 (.n 352 (.l 351 X351) (.l 352 X352)) (.n 354 (.l 353 X353) (.l 354 X354))) (.n 357 (.n 356 (.l 355 X355) (.l 356 X356)) (.n 358 (.l 357 X357) (.n 359 (.l 358 X358) (.l 359 X359))))) (.n 365 (.n 362 (.n 361 (.l 360 X360) (.l 361 X361)) (.n 363 (.l 362 X362) (.n 364 (.l 363 X363) (.l 364 X364)))) (.n 367 (.n 366 (.l 365 X365) (.l 366 X366)) (.n 368 (.l 367 X367) (.n 369 (.l 368 X368) (.l 369 X369)))))))) (.n 409 (.n 389 (.n 379 (.n 374 (.n 372 (.n 371 (.l 370 X370) (.l 371 X371)) (.n 373 (.l 372 X372) (.l 373 X373))) (.n 376 (.n 375 (.l 374 X374) (.l 375 X375)) (.n 377 (.l 376 X376) (.n 378 (.l 377 X377) (.l 378 X378))))) (.n 384 (.n 381 (.n 380 (.l 379 X379) (.l 380 X380)) (.n 383 (.l 381 X381) (.l 383 X383))) (.n 386 (.n 385 (.l 384 X384) (.l 385 X385)) (.n 387 (.l 386 X386) (.n 388 (.l 387 X387) (.l 388 X388)))))) (.n 399 (.n 394 (.n 392 (.n 391 (.l 389 X389) (.l 391 X391)) (.n 393 (.l 392 X392) (.l 393 X393))) (.n 396 (.n 395 (.l 394 X394) (.l 395 X395)) (.n 397 (.l 396 X396) (.n 398 (.l 397 X397) (.l 398 X398))))) (.n 403 (.n 401 (.n 400 (.l 399 X399) (.l 400 X400)) (.n 402 (.l 401 X401) (.l 402 X402))) (.n 406 (.n 405 (.l 403 X403) (.l 405 X405)) (.n 407 (.l 406 X406) (.n 408 (.l 407 X407) (.l 408 X408))))))) (.n 427 (.n 418 (.n 413 (.n 411 (.n 410 (.l 409 X409) (.l 410 X410)) (.n 412 (.l 411 X411) (.l 412 X412))) (.n 415 (.n 414 (.l 413 X413) (.l 414 X414)) (.n 416 (.l 415 X415) (.n 417 (.l 416 X416) (.l 417 X417))))) (.n 422 (.n 420 (.n 419 (.l 418 X418) (.l 419 X419)) (.n 421 (.l 420 X420) (.l 421 X421))) (.n 424 (.n 423 (.l 422 X422) (.l 423 X423)) (.n 425 (.l 424 X424) (.n 426 (.l 425 X425) (.l 426 X426)))))) (.n 436 (.n 431 (.n 429 (.n 428 (.l 427 X427) (.l 428 X428)) (.n 430 (.l 429 X429) (.l 430 X430))) (.n 433 (.n 432 (.l 431 X431) (.l 432 X432)) (.n 434 (.l 433 X433) (.n 435 (.l 434 X434) (.l 435 X435))))) (.n 441 (.n 438 (.n 437 (.l 436 X436) (.l 437 X437)) (.n 439 (.l 438 X438) (.n 440 (.l 439 X439) (.l 440 X440)))) (.n 443 (.n 442 (.l 441 X441) (.l 442 X442)) (.n 444 (.l 443 X443) (.n 445 (.l 444 X444) (.l 445 X445))))))))) (.n 523 (.n 484 (.n 466 (.n 455 (.n 450 (.n 448 (.n 447 (.l 446 X446) (.l 447 X447)) (.n 449 (.l 448 X448) (.l 449 X449))) (.n 452 (.n 451 (.l 450 X450) (.l 451 X451)) (.n 453 (.l 452 X452) (.n 454 (.l 453 X453) (.l 454 X454))))) (.n 459 (.n 457 (.n 456 (.l 455 X455) (.l 456 X456)) (.n 458 (.l 457 X457) (.l 458 X458))) (.n 463 (.n 460 (.l 459 X459) (.l 460 X460)) (.n 464 (.l 463 X463) (.n 465 (.l 464 X464) (.l 465 X465)))))) (.n 475 (.n 470 (.n 468 (.n 467 (.l 466 X466) (.l 467 X467)) (.n 469 (.l 468 X468) (.l 469 X469))) (.n 472 (.n 471 (.l 470 X470) (.l 471 X471)) (.n 473 (.l 472 X472) (.n 474 (.l 473 X473) (.l 474 X474))))) (.n 479 (.n 477 (.n 476 (.l 475 X475) (.l 476 X476)) (.n 478 (.l 477 X477) (.l 478 X478))) (.n 481 (.n 480 (.l 479 X479) (.l 480 X480)) (.n 482 (.l 481 X481) (.n 483 (.l 482 X482) (.l 483 X483))))))) (.n 503 (.n 493 (.n 488 (.n 486 (.n 485 (.l 484 X484) (.l 485 X485)) (.n 487 (.l 486 X486) (.l 487 X487))) (.n 490 (.n 489 (.l 488 X488) (.l 489 X489)) (.n 491 (.l 490 X490) (.n 492 (.l 491 X491) (.l 492 X492))))) (.n 498 (.n 496 (.n 494 (.l 493 X493) (.l 494 X494)) (.n 497 (.l 496 X496) (.l 497 X497))) (.n 500 (.n 499 (.l 498 X498) (.l 499 X499)) (.n 501 (.l 500 X500) (.n 502 (.l 501 X501) (.l 502 X502)))))) (.n 513 (.n 508 (.n 506 (.n 505 (.l 503 X503) (.l 505 X505)) (.n 507 (.l 506 X506) (.l 507 X507))) (.n 510 (.n 509 (.l 508 X508) (.l 509 X509)) (.n 511 (.l 510 X510) (.n 512 (.l 511 X511) (.l 512 X512))))) (.n 518 (.n 515 (.n 514 (.l 513 X513) (.l 514 X514)) (.n 516 (.l 515 X515) (.n 517 (.l 516 X516) (.l 517 X517)))) (.n 520 (.n 519 (.l 518 X518) (.l 519 X519)) (.n 521 (.l 520 X520) (.n 522 (.l 521 X521) (.l 522 X522)))))))) (.n 560 (.n 541 (.n 532 (.n 527 (.n 525 (.n 524 (.l 523 X523) (.l 524 X524)) (.n 526 (.l 525 X525) (.l 526 X526))) (.n 529 (.n 528 (.l 527 X527) (.l 528 X528)) (.n 530 (.l 529 X529) (.n 531 (.l 530 X530) (.l 531 X531))))) (.n 536 (.n 534 (.n 533 (.l 532 X532) (.l 533 X533)) (.n 535 (.l 534 X534) (.l 535 X535))) (.n 538 (.n 537 (.l 536 X536) (.l 537 X537)) (.n 539 (.l 538 X538) (.n 540 (.l 539 X539) (.l 540 X540)))))) (.n 550 (.n 545 (.n 543 (.n 542 (.l 541 X541) (.l 542 X542)) (.n 544 (.l 543 X543) (.l 544 X544))) (.n 547 (.n 546 (.l 545 X545) (.l 546 X546)) (.n 548 (.l 547 X547) (.n 549 (.l 548 X548) (.l 549 X549))))) (.n 554 (.n 552 (.n 551 (.l 550 X550) (.l 551 X551)) (.n 553 (.l 552 X552) (.l 553 X553))) (.n 557 (.n 556 (.l 554 X554) (.l 556 X556)) (.n 558 (.l 557 X557) (.n 559 (.l 558 X558) (.l 559 X559))))))) (.n 580 (.n 570 (.n 564 (.n 562 (.n 561 (.l 560 X560) (.l 561 X561)) (.n 563 (.l 562 X562) (.l 563 X563))) (.n 566 (.n 565 (.l 564 X564) (.l 565 X565)) (.n 567 (.l 566 X566) (.n 568 (.l 567 X567) (.l 568 X568))))) (.n 574 (.n 572 (.n 571 (.l 570 X570) (.l 571 X571)) (.n 573 (.l 572 X572) (.l 573 X573))) (.n 577 (.n 576 (.l 574 X574) (.l 576 X576)) (.n 578 (.l 577 X577) (.n 579 (.l 578 X578) (.l 579 X579)))))) (.n 589 (.n 584 (.n 582 (.n 581 (.l 580 X580) (.l 581 X581)) (.n 583 (.l 582 X582) (.l 583 X583))) (.n 586 (.n 585 (.l 584 X584) (.l 585 X585)) (.n 587 (.l 586 X586) (.n 588 (.l 587 X587) (.l 588 X588))))) (.n 594 (.n 591 (.n 590 (.l 589 X589) (.l 590 X590)) (.n 592 (.l 591 X591) (.n 593 (.l 592 X592) (.l 593 X593)))) (.n 596 (.n 595 (.l 594 X594) (.l 595 X595)) (.n 597 (.l 596 X596) (.n 642 (.l 597 X597) (.l 642 X642)))))))))))
theorem xtabAll : xtab.All T0 := ⟨⟨⟨⟨⟨⟨⟨⟨⟨⟨Go.Proofs.Tryz.func2, xok2⟩, ⟨Go.Proofs.Tryz.func3, xok3⟩⟩, ⟨⟨Go.Proofs.Tryz.func4, xok4⟩, ⟨Go.Proofs.Tryz.func5, xok5⟩⟩⟩, ⟨⟨⟨Go.Proofs.Tryz.func6, xok6⟩, ⟨Go.Proofs.Tryz.func7, xok7⟩⟩, ⟨⟨Go.Proofs.Tryz.func8, xok8⟩, ⟨⟨Go.Proofs.Tryz.func9, xok9⟩, ⟨Go.Proofs.Tryz.func10, xok10⟩⟩⟩⟩⟩, ⟨⟨⟨⟨Go.Proofs.Tryz.func11, xok11⟩, ⟨Go.Proofs.Tryz.func12, xok12⟩⟩, ⟨⟨Go.Proofs.Tryz.func13, xok13⟩, ⟨Go.Proofs.Tryz.func14, xok14⟩⟩⟩, ⟨⟨⟨Go.Proofs.Tryz.func15, xok15⟩, ⟨Go.Proofs.Tryz.func16, xok16⟩⟩, ⟨⟨Go.Proofs.Tryz.func17, xok17⟩, ⟨⟨Go.Proofs.Tryz.func18, xok18⟩, ⟨Go.Proofs.Tryz.func19, xok19⟩⟩⟩⟩⟩⟩, ⟨⟨⟨⟨⟨Go.Proofs.Tryz.func20, xok20⟩, ⟨Go.Proofs.Tryz.func21, xok21⟩⟩, ⟨⟨Go.Proofs.Tryz.func22, xok22⟩, ⟨Go.Proofs.Tryz.func23, xok23⟩⟩⟩, ⟨⟨⟨Go.Proofs.Tryz.func24, xok24⟩, ⟨Go.Proofs.Tryz.func25, xok25⟩⟩, ⟨⟨Go.Proofs.Tryz.func26, xok26⟩, ⟨⟨Go.Proofs.Tryz.func27, xok27⟩, ⟨Go.Proofs.Tryz.func28, xok28⟩⟩⟩⟩⟩, ⟨⟨⟨⟨Go.Proofs.Tryz.func29, xok29⟩, ⟨Go.Proofs.Tryz.func30, xok30⟩⟩, ⟨⟨Go.Proofs.Tryz.func31, xok31⟩, ⟨Go.Proofs.Tryz.func32, xok32⟩⟩⟩, ⟨⟨⟨Go.Proofs.Tryz.func33, xok33⟩, ⟨Go.Proofs.Tryz.func34, xok34⟩⟩, ⟨⟨Go.Proofs.Tryz.func35, xok35⟩, ⟨⟨Go.Proofs.Tryz.func36, xok36⟩, ⟨Go.Proofs.Tryz.func37, xok37⟩⟩⟩⟩⟩⟩⟩, ⟨⟨⟨⟨⟨⟨Go.Proofs.Tryz.func38, xok38⟩, ⟨Go.Proofs.Tryz.func39, xok39⟩⟩, ⟨⟨Go.Proofs.Tryz.func40, xok40⟩, ⟨Go.Proofs.Tryz.func41, xok41⟩⟩⟩, ⟨⟨⟨Go.Proofs.Tryz.func42, xok42⟩, ⟨Go.Proofs.Tryz.func43, xok43⟩⟩, ⟨⟨Go.Proofs.Tryz.func44, xok44⟩, ⟨⟨Go.Proofs.Tryz.func45, xok45⟩, ⟨Go.Proofs.Tryz.func46, xok46⟩⟩⟩⟩⟩, ⟨⟨⟨⟨Go.Proofs.Tryz.func47, xok47⟩, ⟨Go.Proofs.Tryz.func48, xok48⟩⟩, ⟨⟨Go.Proofs.Tryz.func49, xok49⟩, ⟨Go.Proofs.Tryz.func50, xok50⟩⟩⟩, ⟨⟨⟨Go.Proofs.Tryz.func51, xok51⟩, ⟨Go.Proofs.Tryz.func52, xok52⟩⟩, ⟨⟨Go.Proofs.Tryz.func53, xok53⟩, ⟨⟨Go.Proofs.Tryz.func54, xok54⟩, ⟨Go.Proofs.Tryz.func55, xok55⟩⟩⟩⟩⟩⟩, ⟨⟨⟨⟨⟨Go.Proofs.Tryz.func56, xok56⟩, ⟨Go.Proofs.Tryz.func57, xok57⟩⟩, ⟨⟨Go.Proofs.Tryz.func58, xok58⟩, ⟨Go.Proofs.Tryz.func59, xok59⟩⟩⟩, ⟨⟨⟨Go.Proofs.Tryz.func60, xok60⟩, ⟨Go.Proofs.Tryz.func61, xok61⟩⟩, ⟨⟨Go.Proofs.Tryz.func62, xok62⟩, ⟨⟨Go.Proofs.Tryz.func63, xok63⟩, ⟨Go.Proofs.Tryz.func64, xok64⟩⟩⟩⟩⟩, ⟨⟨⟨⟨Go.Proofs.Tryz.func65, xok65⟩, ⟨Go.Proofs.Tryz.func66, xok66⟩⟩, ⟨⟨Go.Proofs.Tryz.func67, xok67⟩, ⟨Go.Proofs.Tryz.func68, xok68⟩⟩⟩, ⟨⟨⟨Go.Proofs.Tryz.func69, xok69⟩, ⟨Go.Proofs.Tryz.func70, xok70⟩⟩, ⟨⟨Go.Proofs.Tryz.func71, xok71⟩, ⟨⟨Go.Proofs.Tryz.func72, xok72⟩, ⟨Go.Proofs.Tryz.func73, xok73⟩⟩⟩⟩⟩⟩⟩⟩, ⟨⟨⟨⟨⟨⟨⟨Go.Proofs.Tryz.func74, xok74⟩, ⟨Go.Proofs.Tryz.func75, xok75⟩⟩, ⟨⟨Go.Proofs.Tryz.func77, xok77⟩, ⟨Go.Proofs.Tryz.func78, xok78⟩⟩⟩, ⟨⟨⟨Go.Proofs.Tryz.func79, xok79⟩, ⟨Go.Proofs.Tryz.func80, xok80⟩⟩, ⟨⟨Go.Proofs.Tryz.func81, xok81⟩, ⟨⟨Go.Proofs.Tryz.func82, xok82⟩, ⟨Go.Proofs.Tryz.func83, xok83⟩⟩⟩⟩⟩, ⟨⟨⟨⟨Go.Proofs.Tryz.func84, xok84⟩, ⟨Go.Proofs.Tryz.func85, xok85⟩⟩, ⟨⟨Go.Proofs.Tryz.func86, xok86⟩, ⟨Go.Proofs.Tryz.func87, xok87⟩⟩⟩, ⟨⟨⟨Go.Proofs.Tryz.func88, xok88⟩, ⟨Go.Proofs.Tryz.func89, xok89⟩⟩, ⟨⟨Go.Proofs.Tryz.func90, xok90⟩, ⟨⟨Go.Proofs.Tryz.func91, xok91⟩, ⟨Go.Proofs.Tryz.func92, xok92⟩⟩⟩⟩⟩⟩, ⟨⟨⟨⟨⟨Go.Proofs.Tryz.func93, xok93⟩, ⟨Go.Proofs.Tryz.func94, xok94⟩⟩, ⟨⟨Go.Proofs.Tryz.func95, xok95⟩, ⟨Go.Proofs.Tryz.func96, xok96⟩⟩⟩, ⟨⟨⟨Go.Proofs.Tryz.func97, xok97⟩, ⟨Go.Proofs.Tryz.func98, xok98⟩⟩, ⟨⟨Go.Proofs.Tryz.func99, xok99⟩, ⟨⟨Go.Proofs.Tryz.func100, xok100⟩, ⟨Go.Proofs.Tryz.func101, xok101⟩⟩⟩⟩⟩, ⟨⟨⟨⟨Go.Proofs.Tryz.func102, xok102⟩, ⟨Go.Proofs.Tryz.func103, xok103⟩⟩, ⟨⟨Go.Proofs.Tryz.func104, xok104⟩, ⟨Go.Proofs.Tryz.func105, xok105⟩⟩⟩, ⟨⟨⟨Go.Proofs.Tryz.func106, xok106⟩, ⟨Go.Proofs.Tryz.func107, xok107⟩⟩, ⟨⟨Go.Proofs.Tryz.func108, xok108⟩, ⟨⟨Go.Proofs.Tryz.func109, xok109⟩, ⟨Go.Proofs.Tryz.func110, xok110⟩⟩⟩⟩⟩⟩⟩, ⟨⟨⟨⟨⟨⟨Go.Proofs.Tryz.func112, xok112⟩, ⟨Go.Proofs.Tryz.func113, xok113⟩⟩, ⟨⟨Go.Proofs.Tryz.func114, xok114⟩, ⟨Go.Proofs.Tryz.func115, xok115⟩⟩⟩, ⟨⟨⟨Go.Proofs.Tryz.func116, xok116⟩, ⟨Go.Proofs.Tryz.func117, xok117⟩⟩, ⟨⟨Go.Proofs.Tryz.func118, xok118⟩, ⟨⟨Go.Proofs.Tryz.func119, xok119⟩, ⟨Go.Proofs.Tryz.func120, xok120⟩⟩⟩⟩⟩, ⟨⟨⟨⟨Go.Proofs.Tryz.func121, xok121⟩, ⟨Go.Proofs.Tryz.func122, xok122⟩⟩, ⟨⟨Go.Proofs.Tryz.func123, xok123⟩, ⟨Go.Proofs.Tryz.func124, xok124⟩⟩⟩, ⟨⟨⟨Go.Proofs.Tryz.func125, xok125⟩, ⟨Go.Proofs.Tryz.func126, xok126⟩⟩, ⟨⟨Go.Proofs.Tryz.func127, xok127⟩, ⟨⟨Go.Proofs.Tryz.func128, xok128⟩, ⟨Go.Proofs.Tryz.func129, xok129⟩⟩⟩⟩⟩⟩, ⟨⟨⟨⟨⟨Go.Proofs.Tryz.func130, xok130⟩, ⟨Go.Proofs.Tryz.func131, xok131⟩⟩, ⟨⟨Go.Proofs.Tryz.func132, xok132⟩, ⟨Go.Proofs.Tryz.func133, xok133⟩⟩⟩, ⟨⟨⟨Go.Proofs.Tryz.func134, xok134⟩, ⟨Go.Proofs.Tryz.func135, xok135⟩⟩, ⟨⟨Go.Proofs.Tryz.func136, xok136⟩, ⟨⟨Go.Proofs.Tryz.func137, xok137⟩, ⟨Go.Proofs.Tryz.func138, xok138⟩⟩⟩⟩⟩, ⟨⟨⟨⟨Go.Proofs.Tryz.func139, xok139⟩, ⟨Go.Proofs.Tryz.func140, xok140⟩⟩, ⟨⟨Go.Proofs.Tryz.func141, xok141⟩, ⟨⟨Go.Proofs.Tryz.func142, xok142⟩, ⟨Go.Proofs.Tryz.func143, xok143⟩⟩⟩⟩, ⟨⟨⟨Go.Proofs.Tryz.func144, xok144⟩, ⟨Go.Proofs.Tryz.func145, xok145⟩⟩, ⟨⟨Go.Proofs.Tryz.func146, xok146⟩, ⟨⟨Go.Proofs.Tryz.func147, xok147⟩, ⟨Go.Proofs.Tryz.func148, xok148⟩⟩⟩⟩⟩⟩⟩⟩⟩, ⟨⟨⟨⟨⟨⟨⟨⟨Go.Proofs.Tryz.func149, xok149⟩, ⟨Go.Proofs.Tryz.func151, xok151⟩⟩, ⟨⟨Go.Proofs.Tryz.func152, xok152⟩, ⟨Go.Proofs.Tryz.func153, xok153⟩⟩⟩, ⟨⟨⟨Go.Proofs.Tryz.func154, xok154⟩, ⟨Go.Proofs.Tryz.func155, xok155⟩⟩, ⟨⟨Go.Proofs.Tryz.func156, xok156⟩, ⟨⟨Go.Proofs.Tryz.func157, xok157⟩, ⟨Go.Proofs.Tryz.func158, xok158⟩⟩⟩⟩⟩, ⟨⟨⟨⟨Go.Proofs.Tryz.func159, xok159⟩, ⟨Go.Proofs.Tryz.func160, xok160⟩⟩, ⟨⟨Go.Proofs.Tryz.func161, xok161⟩, ⟨Go.Proofs.Tryz.func162, xok162⟩⟩⟩, ⟨⟨⟨Go.Proofs.Tryz.func163, xok163⟩, ⟨Go.Proofs.Tryz.func164, xok164⟩⟩, ⟨⟨Go.Proofs.Tryz.func165, xok165⟩, ⟨⟨Go.Proofs.Tryz.func166, xok166⟩, ⟨Go.Proofs.Tryz.func167, xok167⟩⟩⟩⟩⟩⟩, ⟨⟨⟨⟨⟨Go.Proofs.Tryz.func168, xok168⟩, ⟨Go.Proofs.Tryz.func169, xok169⟩⟩, ⟨⟨Go.Proofs.Tryz.func170, xok170⟩, ⟨Go.Proofs.Tryz.func171, xok171⟩⟩⟩, ⟨⟨⟨Go.Proofs.Tryz.func172, xok172⟩, ⟨Go.Proofs.Tryz.func173, xok173⟩⟩, ⟨⟨Go.Proofs.Tryz.func174, xok174⟩, ⟨⟨Go.Proofs.Tryz.func175, xok175⟩, ⟨Go.Proofs.Tryz.func176, xok176⟩⟩⟩⟩⟩, ⟨⟨⟨⟨Go.Proofs.Tryz.func177, xok177⟩, ⟨Go.Proofs.Tryz.func178, xok178⟩⟩, ⟨⟨Go.Proofs.Tryz.func179, xok179⟩, ⟨Go.Proofs.Tryz.func180, xok180⟩⟩⟩, ⟨⟨⟨Go.Proofs.Tryz.func181, xok181⟩, ⟨Go.Proofs.Tryz.func182, xok182⟩⟩, ⟨⟨Go.Proofs.Tryz.func183, xok183⟩, ⟨⟨Go.Proofs.Tryz.func184, xok184⟩, ⟨Go.Proofs.Tryz.func185, xok185⟩⟩⟩⟩⟩⟩⟩, ⟨⟨⟨⟨⟨⟨Go.Proofs.Tryz.func186, xok186⟩, ⟨Go.Proofs.Tryz.func187, xok187⟩⟩, ⟨⟨Go.Proofs.Tryz.func188, xok188⟩, ⟨Go.Proofs.Tryz.func189, xok189⟩⟩⟩, ⟨⟨⟨Go.Proofs.Tryz.func190, xok190⟩, ⟨Go.Proofs.Tryz.func191, xok191⟩⟩, ⟨⟨Go.Proofs.Tryz.func192, xok192⟩, ⟨⟨Go.Proofs.Tryz.func193, xok193⟩, ⟨Go.Proofs.Tryz.func194, xok194⟩⟩⟩⟩⟩, ⟨⟨⟨⟨Go.Proofs.Tryz.func195, xok195⟩, ⟨Go.Proofs.Tryz.func196, xok196⟩⟩, ⟨⟨Go.Proofs.Tryz.func197, xok197⟩, ⟨Go.Proofs.Tryz.func198, xok198⟩⟩⟩, ⟨⟨⟨Go.Proofs.Tryz.func199, xok199⟩, ⟨Go.Proofs.Tryz.func200, xok200⟩⟩, ⟨⟨Go.Proofs.Tryz.func201, xok201⟩, ⟨⟨Go.Proofs.Tryz.func202, xok202⟩, ⟨Go.Proofs.Tryz.func203, xok203⟩⟩⟩⟩⟩⟩, ⟨⟨⟨⟨⟨Go.Proofs.Tryz.func204, xok204⟩, ⟨Go.Proofs.Tryz.func205, xok205⟩⟩, ⟨⟨Go.Proofs.Tryz.func206, xok206⟩, ⟨Go.Proofs.Tryz.func207, xok207⟩⟩⟩, ⟨⟨⟨Go.Proofs.Tryz.func208, xok208⟩, ⟨Go.Proofs.Tryz.func209, xok209⟩⟩, ⟨⟨Go.Proofs.Tryz.func210, xok210⟩, ⟨⟨Go.Proofs.Tryz.func211, xok211⟩, ⟨Go.Proofs.Tryz.func212, xok212⟩⟩⟩⟩⟩, ⟨⟨⟨⟨Go.Proofs.Tryz.func213, xok213⟩, ⟨Go.Proofs.Tryz.func214, xok214⟩⟩, ⟨⟨Go.Proofs.Tryz.func215, xok215⟩, ⟨⟨Go.Proofs.Tryz.func216, xok216⟩, ⟨Go.Proofs.Tryz.func217, xok217⟩⟩⟩⟩, ⟨⟨⟨Go.Proofs.Tryz.func218, xok218⟩, ⟨Go.Proofs.Tryz.func219, xok219⟩⟩, ⟨⟨Go.Proofs.Tryz.func220, xok220⟩, ⟨⟨Go.Proofs.Tryz.func221, xok221⟩, ⟨Go.Proofs.Tryz.func222, xok222⟩⟩⟩⟩⟩⟩⟩⟩, ⟨⟨⟨⟨⟨⟨⟨Go.Proofs.Tryz.func223, xok223⟩, ⟨Go.Proofs.Tryz.func224, xok224⟩⟩, ⟨⟨Go.Proofs.Tryz.func225, xok225⟩, ⟨Go.Proofs.Tryz.func226, xok226⟩⟩⟩, ⟨⟨⟨Go.Proofs.Tryz.func227, xok227⟩, ⟨Go.Proofs.Tryz.func228, xok228⟩⟩, ⟨⟨Go.Proofs.Tryz.func229, xok229⟩, ⟨⟨Go.Proofs.Tryz.func230, xok230⟩, ⟨Go.Proofs.Tryz.func231, xok231⟩⟩⟩⟩⟩, ⟨⟨⟨⟨Go.Proofs.Tryz.func232, xok232⟩, ⟨Go.Proofs.Tryz.func233, xok233⟩⟩, ⟨⟨Go.Proofs.Tryz.func234, xok234⟩, ⟨Go.Proofs.Tryz.func235, xok235⟩⟩⟩, ⟨⟨⟨Go.Proofs.Tryz.func236, xok236⟩, ⟨Go.Proofs.Tryz.func237, xok237⟩⟩, ⟨⟨Go.Proofs.Tryz.func238, xok238⟩, ⟨⟨Go.Proofs.Tryz.func239, xok239⟩, ⟨Go.Proofs.Tryz.func240, xok240⟩⟩⟩⟩⟩⟩, ⟨⟨⟨⟨⟨Go.Proofs.Tryz.func241, xok241⟩, ⟨Go.Proofs.Tryz.func242, xok242⟩⟩, ⟨⟨Go.Proofs.Tryz.func243, xok243⟩, ⟨Go.Proofs.Tryz.func244, xok244⟩⟩⟩, ⟨⟨⟨Go.Proofs.Tryz.func245, xok245⟩, ⟨Go.Proofs.Tryz.func246, xok246⟩⟩, ⟨⟨Go.Proofs.Tryz.func247, xok247⟩, ⟨⟨Go.Proofs.Tryz.func248, xok248⟩, ⟨Go.Proofs.Tryz.func249, xok249⟩⟩⟩⟩⟩, ⟨⟨⟨⟨Go.Proofs.Tryz.func250, xok250⟩, ⟨Go.Proofs.Tryz.func251, xok251⟩⟩, ⟨⟨Go.Proofs.Tryz.func252, xok252⟩, ⟨Go.Proofs.Tryz.func253, xok253⟩⟩⟩, ⟨⟨⟨Go.Proofs.Tryz.func254, xok254⟩, ⟨Go.Proofs.Tryz.func255, xok255⟩⟩, ⟨⟨Go.Proofs.Tryz.func256, xok256⟩, ⟨⟨Go.Proofs.Tryz.func257, xok257⟩, ⟨Go.Proofs.Tryz.func258, xok258⟩⟩⟩⟩⟩⟩⟩, ⟨⟨⟨⟨⟨⟨Go.Proofs.Tryz.func260, xok260⟩, ⟨Go.Proofs.Tryz.func261, xok261⟩⟩, ⟨⟨Go.Proofs.Tryz.func262, xok262⟩, ⟨Go.Proofs.Tryz.func263, xok263⟩⟩⟩, ⟨⟨⟨Go.Proofs.Tryz.func264, xok264⟩, ⟨Go.Proofs.Tryz.func265, xok265⟩⟩, ⟨⟨Go.Proofs.Tryz.func266, xok266⟩, ⟨⟨Go.Proofs.Tryz.func267, xok267⟩, ⟨Go.Proofs.Tryz.func268, xok268⟩⟩⟩⟩⟩, ⟨⟨⟨⟨Go.Proofs.Tryz.func269, xok269⟩, ⟨Go.Proofs.Tryz.func270, xok270⟩⟩, ⟨⟨Go.Proofs.Tryz.func271, xok271⟩, ⟨Go.Proofs.Tryz.func272, xok272⟩⟩⟩, ⟨⟨⟨Go.Proofs.Tryz.func273, xok273⟩, ⟨Go.Proofs.Tryz.func274, xok274⟩⟩, ⟨⟨Go.Proofs.Tryz.func275, xok275⟩, ⟨⟨Go.Proofs.Tryz.func276, xok276⟩, ⟨Go.Proofs.Tryz.func277, xok277⟩⟩⟩⟩⟩⟩, ⟨⟨⟨⟨⟨Go.Proofs.Tryz.func278, xok278⟩, ⟨Go.Proofs.Tryz.func279, xok279⟩⟩, ⟨⟨Go.Proofs.Tryz.func280, xok280⟩, ⟨Go.Proofs.Tryz.func281, xok281⟩⟩⟩, ⟨⟨⟨Go.Proofs.Tryz.func282, xok282⟩, ⟨Go.Proofs.Tryz.func283, xok283⟩⟩, ⟨⟨Go.Proofs.Tryz.func284, xok284⟩, ⟨⟨Go.Proofs.Tryz.func285, xok285⟩, ⟨Go.Proofs.Tryz.func286, xok286⟩⟩⟩⟩⟩, ⟨⟨⟨⟨Go.Proofs.Tryz.func287, xok287⟩, ⟨Go.Proofs.Tryz.func288, xok288⟩⟩, ⟨⟨Go.Proofs.Tryz.func289, xok289⟩, ⟨⟨Go.Proofs.Tryz.func290, xok290⟩, ⟨Go.Proofs.Tryz.func291, xok291⟩⟩⟩⟩, ⟨⟨⟨Go.Proofs.Tryz.func292, xok292⟩, ⟨Go.Proofs.Tryz.func293, xok293⟩⟩, ⟨⟨Go.Proofs.Tryz.func294, xok294⟩, ⟨⟨Go.Proofs.Tryz.func295, xok295⟩, ⟨Go.Proofs.Tryz.func296, xok296⟩⟩⟩⟩⟩⟩⟩⟩⟩⟩, ⟨⟨⟨⟨⟨⟨⟨⟨⟨Go.Proofs.Tryz.func297, xok297⟩, ⟨Go.Proofs.Tryz.func298, xok298⟩⟩, ⟨⟨Go.Proofs.Tryz.func299, xok299⟩, ⟨Go.Proofs.Tryz.func300, xok300⟩⟩⟩, ⟨⟨⟨Go.Proofs.Tryz.func301, xok301⟩, ⟨Go.Proofs.Tryz.func302, xok302⟩⟩, ⟨⟨Go.Proofs.Tryz.func303, xok303⟩, ⟨⟨Go.Proofs.Tryz.func304, xok304⟩, ⟨Go.Proofs.Tryz.func305, xok305⟩⟩⟩⟩⟩, ⟨⟨⟨⟨Go.Proofs.Tryz.func306, xok306⟩, ⟨Go.Proofs.Tryz.func307, xok307⟩⟩, ⟨⟨Go.Proofs.Tryz.func308, xok308⟩, ⟨Go.Proofs.Tryz.func309, xok309⟩⟩⟩, ⟨⟨⟨Go.Proofs.Tryz.func310, xok310⟩, ⟨Go.Proofs.Tryz.func311, xok311⟩⟩, ⟨⟨Go.Proofs.Tryz.func312, xok312⟩, ⟨⟨Go.Proofs.Tryz.func313, xok313⟩, ⟨Go.Proofs.Tryz.func314, xok314⟩⟩⟩⟩⟩⟩, ⟨⟨⟨⟨⟨Go.Proofs.Tryz.func315, xok315⟩, ⟨Go.Proofs.Tryz.func316, xok316⟩⟩, ⟨⟨Go.Proofs.Tryz.func317, xok317⟩, ⟨Go.Proofs.Tryz.func318, xok318⟩⟩⟩, ⟨⟨⟨Go.Proofs.Tryz.func319, xok319⟩, ⟨Go.Proofs.Tryz.func320, xok320⟩⟩, ⟨⟨Go.Proofs.Tryz.func321, xok321⟩, ⟨⟨Go.Proofs.Tryz.func322, xok322⟩, ⟨Go.Proofs.Tryz.func323, xok323⟩⟩⟩⟩⟩, ⟨⟨⟨⟨Go.Proofs.Tryz.func324, xok324⟩, ⟨Go.Proofs.Tryz.func325, xok325⟩⟩, ⟨⟨Go.Proofs.Tryz.func326, xok326⟩, ⟨Go.Proofs.Tryz.func327, xok327⟩⟩⟩, ⟨⟨⟨Go.Proofs.Tryz.func328, xok328⟩, ⟨Go.Proofs.Tryz.func329, xok329⟩⟩, ⟨⟨Go.Proofs.Tryz.func330, xok330⟩, ⟨⟨Go.Proofs.Tryz.func331, xok331⟩, ⟨Go.Proofs.Tryz.func332, xok332⟩⟩⟩⟩⟩⟩⟩, ⟨⟨⟨⟨⟨⟨Go.Proofs.Tryz.func333, xok333⟩, ⟨Go.Proofs.Tryz.func334, xok334⟩⟩, ⟨⟨Go.Proofs.Tryz.func335, xok335⟩, ⟨Go.Proofs.Tryz.func336, xok336⟩⟩⟩, ⟨⟨⟨Go.Proofs.Tryz.func337, xok337⟩, ⟨Go.Proofs.Tryz.func338, xok338⟩⟩, ⟨⟨Go.Proofs.Tryz.func339, xok339⟩, ⟨⟨Go.Proofs.Tryz.func340, xok340⟩, ⟨Go.Proofs.Tryz.func341, xok341⟩⟩⟩⟩⟩, ⟨⟨⟨⟨Go.Proofs.Tryz.func342, xok342⟩, ⟨Go.Proofs.Tryz.func343, xok343⟩⟩, ⟨⟨Go.Proofs.Tryz.func344, xok344⟩, ⟨Go.Proofs.Tryz.func345, xok345⟩⟩⟩, ⟨⟨⟨Go.Proofs.Tryz.func346, xok346⟩, ⟨Go.Proofs.Tryz.func347, xok347⟩⟩, ⟨⟨Go.Proofs.Tryz.func348, xok348⟩, ⟨⟨Go.Proofs.Tryz.func349, xok349⟩, ⟨Go.Proofs.Tryz.func350, xok350⟩⟩⟩⟩⟩⟩, ⟨⟨⟨⟨⟨Go.Proofs.Tryz.func351, xok351⟩, ⟨Go.Proofs.Tryz.func352, xok352⟩⟩, ⟨⟨Go.Proofs.Tryz.func353, xok353⟩, ⟨Go.Proofs.Tryz.func354, xok354⟩⟩⟩, ⟨⟨⟨Go.Proofs.Tryz.func355, xok355⟩, ⟨Go.Proofs.Tryz.func356, xok356⟩⟩, ⟨⟨Go.Proofs.Tryz.func357, xok357⟩, ⟨⟨Go.Proofs.Tryz.func358, xok358⟩, ⟨Go.Proofs.Tryz.func359, xok359⟩⟩⟩⟩⟩, ⟨⟨⟨⟨Go.Proofs.Tryz.func360, xok360⟩, ⟨Go.Proofs.Tryz.func361, xok361⟩⟩, ⟨⟨Go.Proofs.Tryz.func362, xok362⟩, ⟨⟨Go.Proofs.Tryz.func363, xok363⟩, ⟨Go.Proofs.Tryz.func364, xok364⟩⟩⟩⟩, ⟨⟨⟨Go.Proofs.Tryz.func365, xok365⟩, ⟨Go.Proofs.Tryz.func366, xok366⟩⟩, ⟨⟨Go.Proofs.Tryz.func367, xok367⟩, ⟨⟨Go.Proofs.Tryz.func368, xok368⟩, ⟨Go.Proofs.Tryz.func369, xok369⟩⟩⟩⟩⟩⟩⟩⟩, ⟨⟨⟨⟨⟨⟨⟨Go.Proofs.Tryz.func370, xok370⟩, ⟨Go.Proofs.Tryz.func371, xok371⟩⟩, ⟨⟨Go.Proofs.Tryz.func372, xok372⟩, ⟨Go.Proofs.Tryz.func373, xok373⟩⟩⟩, ⟨⟨⟨Go.Proofs.Tryz.func374, xok374⟩, ⟨Go.Proofs.Tryz.func375, xok375⟩⟩, ⟨⟨Go.Proofs.Tryz.func376, xok376⟩, ⟨⟨Go.Proofs.Tryz.func377, xok377⟩, ⟨Go.Proofs.Tryz.func378, xok378⟩⟩⟩⟩⟩, ⟨⟨⟨⟨Go.Proofs.Tryz.func379, xok379⟩, ⟨Go.Proofs.Tryz.func380, xok380⟩⟩, ⟨⟨Go.Proofs.Tryz.func381, xok381⟩, ⟨Go.Proofs.Tryz.func383, xok383⟩⟩⟩, ⟨⟨⟨Go.Proofs.Tryz.func384, xok384⟩, ⟨Go.Proofs.Tryz.func385, xok385⟩⟩, ⟨⟨Go.Proofs.Tryz.func386, xok386⟩, ⟨⟨Go.Proofs.Tryz.func387, xok387⟩, ⟨Go.Proofs.Tryz.func388, xok388⟩⟩⟩⟩⟩⟩, ⟨⟨⟨⟨⟨Go.Proofs.Tryz.func389, xok389⟩, ⟨Go.Proofs.Tryz.func391, xok391⟩⟩, ⟨⟨Go.Proofs.Tryz.func392, xok392⟩, ⟨Go.Proofs.Tryz.func393, xok393⟩⟩⟩, ⟨⟨⟨Go.Proofs.Tryz.func394, xok394⟩, ⟨Go.Proofs.Tryz.func395, xok395⟩⟩, ⟨⟨Go.Proofs.Tryz.func396, xok396⟩, ⟨⟨Go.Proofs.Tryz.func397, xok397⟩, ⟨Go.Proofs.Tryz.func398, xok398⟩⟩⟩⟩⟩, ⟨⟨⟨⟨Go.Proofs.Tryz.func399, xok399⟩, ⟨Go.Proofs.Tryz.func400, xok400⟩⟩, ⟨⟨Go.Proofs.Tryz.func401, xok401⟩, ⟨Go.Proofs.Tryz.func402, xok402⟩⟩⟩, ⟨⟨⟨Go.Proofs.Tryz.func403, xok403⟩, ⟨Go.Proofs.Tryz.func405, xok405⟩⟩, ⟨⟨Go.Proofs.Tryz.func406, xok406⟩, ⟨⟨Go.Proofs.Tryz.func407, xok407⟩, ⟨Go.Proofs.Tryz.func408, xok408⟩⟩⟩⟩⟩⟩⟩, ⟨⟨⟨⟨⟨⟨Go.Proofs.Tryz.func409, xok409⟩, ⟨Go.Proofs.Tryz.func410, xok410⟩⟩, ⟨⟨Go.Proofs.Tryz.func411, xok411⟩, ⟨Go.Proofs.Tryz.func412, xok412⟩⟩⟩, ⟨⟨⟨Go.Proofs.Tryz.func413, xok413⟩, ⟨Go.Proofs.Tryz.func414, xok414⟩⟩, ⟨⟨Go.Proofs.Tryz.func415, xok415⟩, ⟨⟨Go.Proofs.Tryz.func416, xok416⟩, ⟨Go.Proofs.Tryz.func417, xok417⟩⟩⟩⟩⟩, ⟨⟨⟨⟨Go.Proofs.Tryz.func418, xok418⟩, ⟨Go.Proofs.Tryz.func419, xok419⟩⟩, ⟨⟨Go.Proofs.Tryz.func420, xok420⟩, ⟨Go.Proofs.Tryz.func421, xok421⟩⟩⟩, ⟨⟨⟨Go.Proofs.Tryz.func422, xok422⟩, ⟨Go.Proofs.Tryz.func423, xok423⟩⟩, ⟨⟨Go.Proofs.Tryz.func424, xok424⟩, ⟨⟨Go.Proofs.Tryz.func425, xok425⟩, ⟨Go.Proofs.Tryz.func426, xok426⟩⟩⟩⟩⟩⟩, ⟨⟨⟨⟨⟨Go.Proofs.Tryz.func427, xok427⟩, ⟨Go.Proofs.Tryz.func428, xok428⟩⟩, ⟨⟨Go.Proofs.Tryz.func429, xok429⟩, ⟨Go.Proofs.Tryz.func430, xok430⟩⟩⟩, ⟨⟨⟨Go.Proofs.Tryz.func431, xok431⟩, ⟨Go.Proofs.Tryz.func432, xok432⟩⟩, ⟨⟨Go.Proofs.Tryz.func433, xok433⟩, ⟨⟨Go.Proofs.Tryz.func434, xok434⟩, ⟨Go.Proofs.Tryz.func435, xok435⟩⟩⟩⟩⟩, ⟨⟨⟨⟨Go.Proofs.Tryz.func436, xok436⟩, ⟨Go.Proofs.Tryz.func437, xok437⟩⟩, ⟨⟨Go.Proofs.Tryz.func438, xok438⟩, ⟨⟨Go.Proofs.Tryz.func439, xok439⟩, ⟨Go.Proofs.Tryz.func440, xok440⟩⟩⟩⟩, ⟨⟨⟨Go.Proofs.Tryz.func441, xok441⟩, ⟨Go.Proofs.Tryz.func442, xok442⟩⟩, ⟨⟨Go.Proofs.Tryz.func443, xok443⟩, ⟨⟨Go.Proofs.Tryz.func444, xok444⟩, ⟨Go.Proofs.Tryz.func445, xok445⟩⟩⟩⟩⟩⟩⟩⟩⟩, ⟨⟨⟨⟨⟨⟨⟨⟨Go.Proofs.Tryz.func446, xok446⟩, ⟨Go.Proofs.Tryz.func447, xok447⟩⟩, ⟨⟨Go.Proofs.Tryz.func448, xok448⟩, ⟨Go.Proofs.Tryz.func449, xok449⟩⟩⟩, ⟨⟨⟨Go.Proofs.Tryz.func450, xok450⟩, ⟨Go.Proofs.Tryz.func451, xok451⟩⟩, ⟨⟨Go.Proofs.Tryz.func452, xok452⟩, ⟨⟨Go.Proofs.Tryz.func453, xok453⟩, ⟨Go.Proofs.Tryz.func454, xok454⟩⟩⟩⟩⟩, ⟨⟨⟨⟨Go.Proofs.Tryz.func455, xok455⟩, ⟨Go.Proofs.Tryz.func456, xok456⟩⟩, ⟨⟨Go.Proofs.Tryz.func457, xok457⟩, ⟨Go.Proofs.Tryz.func458, xok458⟩⟩⟩, ⟨⟨⟨Go.Proofs.Tryz.func459, xok459⟩, ⟨Go.Proofs.Tryz.func460, xok460⟩⟩, ⟨⟨Go.Proofs.Tryz.func463, xok463⟩, ⟨⟨Go.Proofs.Tryz.func464, xok464⟩, ⟨Go.Proofs.Tryz.func465, xok465⟩⟩⟩⟩⟩⟩, ⟨⟨⟨⟨⟨Go.Proofs.Tryz.func466, xok466⟩, ⟨Go.Proofs.Tryz.func467, xok467⟩⟩, ⟨⟨Go.Proofs.Tryz.func468, xok468⟩, ⟨Go.Proofs.Tryz.func469, xok469⟩⟩⟩, ⟨⟨⟨Go.Proofs.Tryz.func470, xok470⟩, ⟨Go.Proofs.Tryz.func471, xok471⟩⟩, ⟨⟨Go.Proofs.Tryz.func472, xok472⟩, ⟨⟨Go.Proofs.Tryz.func473, xok473⟩, ⟨Go.Proofs.Tryz.func474, xok474⟩⟩⟩⟩⟩, ⟨⟨⟨⟨Go.Proofs.Tryz.func475, xok475⟩, ⟨Go.Proofs.Tryz.func476, xok476⟩⟩, ⟨⟨Go.Proofs.Tryz.func477, xok477⟩, ⟨Go.Proofs.Tryz.func478, xok478⟩⟩⟩, ⟨⟨⟨Go.Proofs.Tryz.func479, xok479⟩, ⟨Go.Proofs.Tryz.func480, xok480⟩⟩, ⟨⟨Go.Proofs.Tryz.func481, xok481⟩, ⟨⟨Go.Proofs.Tryz.func482, xok482⟩, ⟨Go.Proofs.Tryz.func483, xok483⟩⟩⟩⟩⟩⟩⟩, ⟨⟨⟨⟨⟨⟨Go.Proofs.Tryz.func484, xok484⟩, ⟨Go.Proofs.Tryz.func485, xok485⟩⟩, ⟨⟨Go.Proofs.Tryz.func486, xok486⟩, ⟨Go.Proofs.Tryz.func487, xok487⟩⟩⟩, ⟨⟨⟨Go.Proofs.Tryz.func488, xok488⟩, ⟨Go.Proofs.Tryz.func489, xok489⟩⟩, ⟨⟨Go.Proofs.Tryz.func490, xok490⟩, ⟨⟨Go.Proofs.Tryz.func491, xok491⟩, ⟨Go.Proofs.Tryz.func492, xok492⟩⟩⟩⟩⟩, ⟨⟨⟨⟨Go.Proofs.Tryz.func493, xok493⟩, ⟨Go.Proofs.Tryz.func494, xok494⟩⟩, ⟨⟨Go.Proofs.Tryz.func496, xok496⟩, ⟨Go.Proofs.Tryz.func497, xok497⟩⟩⟩, ⟨⟨⟨Go.Proofs.Tryz.func498, xok498⟩, ⟨Go.Proofs.Tryz.func499, xok499⟩⟩, ⟨⟨Go.Proofs.Tryz.func500, xok500⟩, ⟨⟨Go.Proofs.Tryz.func501, xok501⟩, ⟨Go.Proofs.Tryz.func502, xok502⟩⟩⟩⟩⟩⟩, ⟨⟨⟨⟨⟨Go.Proofs.Tryz.func503, xok503⟩, ⟨Go.Proofs.Tryz.func505, xok505⟩⟩, ⟨⟨Go.Proofs.Tryz.func506, xok506⟩, ⟨Go.Proofs.Tryz.func507, xok507⟩⟩⟩, ⟨⟨⟨Go.Proofs.Tryz.func508, xok508⟩, ⟨Go.Proofs.Tryz.func509, xok509⟩⟩, ⟨⟨Go.Proofs.Tryz.func510, xok510⟩, ⟨⟨Go.Proofs.Tryz.func511, xok511⟩, ⟨Go.Proofs.Tryz.func512, xok512⟩⟩⟩⟩⟩, ⟨⟨⟨⟨Go.Proofs.Tryz.func513, xok513⟩, ⟨Go.Proofs.Tryz.func514, xok514⟩⟩, ⟨⟨Go.Proofs.Tryz.func515, xok515⟩, ⟨⟨Go.Proofs.Tryz.func516, xok516⟩, ⟨Go.Proofs.Tryz.func517, xok517⟩⟩⟩⟩, ⟨⟨⟨Go.Proofs.Tryz.func518, xok518⟩, ⟨Go.Proofs.Tryz.func519, xok519⟩⟩, ⟨⟨Go.Proofs.Tryz.func520, xok520⟩, ⟨⟨Go.Proofs.Tryz.func521, xok521⟩, ⟨Go.Proofs.Tryz.func522, xok522⟩⟩⟩⟩⟩⟩⟩⟩, ⟨⟨⟨⟨⟨⟨⟨Go.Proofs.Tryz.func523, xok523⟩, ⟨Go.Proofs.Tryz.func524, xok524⟩⟩, ⟨⟨Go.Proofs.Tryz.func525, xok525⟩, ⟨Go.Proofs.Tryz.func526, xok526⟩⟩⟩, ⟨⟨⟨Go.Proofs.Tryz.func527, xok527⟩, ⟨Go.Proofs.Tryz.func528, xok528⟩⟩, ⟨⟨Go.Proofs.Tryz.func529, xok529⟩, ⟨⟨Go.Proofs.Tryz.func530, xok530⟩, ⟨Go.Proofs.Tryz.func531, xok531⟩⟩⟩⟩⟩, ⟨⟨⟨⟨Go.Proofs.Tryz.func532, xok532⟩, ⟨Go.Proofs.Tryz.func533, xok533⟩⟩, ⟨⟨Go.Proofs.Tryz.func534, xok534⟩, ⟨Go.Proofs.Tryz.func535, xok535⟩⟩⟩, ⟨⟨⟨Go.Proofs.Tryz.func536, xok536⟩, ⟨Go.Proofs.Tryz.func537, xok537⟩⟩, ⟨⟨Go.Proofs.Tryz.func538, xok538⟩, ⟨⟨Go.Proofs.Tryz.func539, xok539⟩, ⟨Go.Proofs.Tryz.func540, xok540⟩⟩⟩⟩⟩⟩, ⟨⟨⟨⟨⟨Go.Proofs.Tryz.func541, xok541⟩, ⟨Go.Proofs.Tryz.func542, xok542⟩⟩, ⟨⟨Go.Proofs.Tryz.func543, xok543⟩, ⟨Go.Proofs.Tryz.func544, xok544⟩⟩⟩, ⟨⟨⟨Go.Proofs.Tryz.func545, xok545⟩, ⟨Go.Proofs.Tryz.func546, xok546⟩⟩, ⟨⟨Go.Proofs.Tryz.func547, xok547⟩, ⟨⟨Go.Proofs.Tryz.func548, xok548⟩, ⟨Go.Proofs.Tryz.func549, xok549⟩⟩⟩⟩⟩, ⟨⟨⟨⟨Go.Proofs.Tryz.func550, xok550⟩, ⟨Go.Proofs.Tryz.func551, xok551⟩⟩, ⟨⟨Go.Proofs.Tryz.func552, xok552⟩, ⟨Go.Proofs.Tryz.func553, xok553⟩⟩⟩, ⟨⟨⟨Go.Proofs.Tryz.func554, xok554⟩, ⟨Go.Proofs.Tryz.func556, xok556⟩⟩, ⟨⟨Go.Proofs.Tryz.func557, xok557⟩, ⟨⟨Go.Proofs.Tryz.func558, xok558⟩, ⟨Go.Proofs.Tryz.func559, xok559⟩⟩⟩⟩⟩⟩⟩, ⟨⟨⟨⟨⟨⟨Go.Proofs.Tryz.func560, xok560⟩, ⟨Go.Proofs.Tryz.func561, xok561⟩⟩, ⟨⟨Go.Proofs.Tryz.func562, xok562⟩, ⟨Go.Proofs.Tryz.func563, xok563⟩⟩⟩, ⟨⟨⟨Go.Proofs.Tryz.func564, xok564⟩, ⟨Go.Proofs.Tryz.func565, xok565⟩⟩, ⟨⟨Go.Proofs.Tryz.func566, xok566⟩, ⟨⟨Go.Proofs.Tryz.func567, xok567⟩, ⟨Go.Proofs.Tryz.func568, xok568⟩⟩⟩⟩⟩, ⟨⟨⟨⟨Go.Proofs.Tryz.func570, xok570⟩, ⟨Go.Proofs.Tryz.func571, xok571⟩⟩, ⟨⟨Go.Proofs.Tryz.func572, xok572⟩, ⟨Go.Proofs.Tryz.func573, xok573⟩⟩⟩, ⟨⟨⟨Go.Proofs.Tryz.func574, xok574⟩, ⟨Go.Proofs.Tryz.func576, xok576⟩⟩, ⟨⟨Go.Proofs.Tryz.func577, xok577⟩, ⟨⟨Go.Proofs.Tryz.func578, xok578⟩, ⟨Go.Proofs.Tryz.func579, xok579⟩⟩⟩⟩⟩⟩, ⟨⟨⟨⟨⟨Go.Proofs.Tryz.func580, xok580⟩, ⟨Go.Proofs.Tryz.func581, xok581⟩⟩, ⟨⟨Go.Proofs.Tryz.func582, xok582⟩, ⟨Go.Proofs.Tryz.func583, xok583⟩⟩⟩, ⟨⟨⟨Go.Proofs.Tryz.func584, xok584⟩, ⟨Go.Proofs.Tryz.func585, xok585⟩⟩, ⟨⟨Go.Proofs.Tryz.func586, xok586⟩, ⟨⟨Go.Proofs.Tryz.func587, xok587⟩, ⟨Go.Proofs.Tryz.func588, xok588⟩⟩⟩⟩⟩, ⟨⟨⟨⟨Go.Proofs.Tryz.func589, xok589⟩, ⟨Go.Proofs.Tryz.func590, xok590⟩⟩, ⟨⟨Go.Proofs.Tryz.func591, xok591⟩, ⟨⟨Go.Proofs.Tryz.func592, xok592⟩, ⟨Go.Proofs.Tryz.func593, xok593⟩⟩⟩⟩, ⟨⟨⟨Go.Proofs.Tryz.func594, xok594⟩, ⟨Go.Proofs.Tryz.func595, xok595⟩⟩, ⟨⟨Go.Proofs.Tryz.func596, xok596⟩, ⟨⟨Go.Proofs.Tryz.func597, xok597⟩, ⟨Go.Proofs.Tryz.func642, xok642⟩⟩⟩⟩⟩⟩⟩⟩⟩⟩⟩
noncomputable def itL : Code := inC (inC (sndC (bodyC Go.Proofs.Tryz.f81)))
noncomputable def it0 : Array Oper := regOps (fstC (bodyC Go.Proofs.Tryz.f81))
noncomputable def it1 : Array Oper := regOps (fstC itL)
noncomputable def it2 : Array Oper := regOps (fstC (inC (sndC (sndC itL))))
noncomputable def it3 : Array Oper := regOps (fstC (sndC (inC (sndC (sndC itL)))))
theorem it_b : Go.Proofs.Tryz.f81.body = some (.seq (.region 0 it0 false) (.block 0 (.loop (.seq (.region 1 it1 false) (.seq (.cond (.tmp 7) .skip (.exit 0)) (.block 1 (.seq (.region 2 it2 false) (.seq (.region 3 it3 false) (.cond (.tmp 13) .ret .skip))))))))) := by kernel_rfl
theorem it_0 : opsL it0.toList [(some 4, .load 99 (.tmp 1)), (some 5, .range 99 (.tmp 4))] := by unfold opsL; kernel_rfl
theorem it_1 : opsL it1.toList [(some 6, .next (.tmp 5) false), (some 7, .extract (.tmp 6) 0)] := by unfold opsL; kernel_rfl
theorem it_2 : opsL it2.toList [(some 8, .entry (.tmp 5)), (some 9, .extract (.tmp 8) 0), (some 3, .assign (.tmp 9))] := by unfold opsL; kernel_rfl
theorem it_3 : opsL it3.toList [(some 10, .move (.tmp 0)), (some 11, .move (.tmp 3)), (some 12, .call (callC it3 2)), (some 13, .unOp .not 4 (.tmp 12))] := by unfold opsL; kernel_rfl
theorem it_c : (callC it3 2).callee = .value (.tmp 10) := by kernel_rfl
theorem it_a : (callC it3 2).args = #[.tmp 11] := by kernel_rfl
theorem it_n : Go.Proofs.Tryz.f81.ntmps = 14 := by kernel_rfl
theorem it_r : Go.Proofs.Tryz.f81.results = #[] := by kernel_rfl
noncomputable def itK : KeysIt P 81 99 := ⟨_, Go.Proofs.Tryz.func81, it_n, it_r, it0, it1, it2, it3, 4, callC it3 2, it_b, it_0, it_1, it_2, it_3, it_c, it_a⟩
noncomputable abbrev X : Cx P := cxOf tree treeAll okF hok hmix xtab xtabAll (oneKey 81 99) (oneKey_ok itK)
theorem xOk : CxOk X := cxOf_ok
end Go.E

