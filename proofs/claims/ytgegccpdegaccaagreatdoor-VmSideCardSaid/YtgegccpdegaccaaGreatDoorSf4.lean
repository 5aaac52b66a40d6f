/- The program's functions in the quick form, each held against the program. -/
import Derived.Test.YtgegccpdegaccaaGreatDoorSf0
open Go.Ab
set_option maxRecDepth 100000
namespace Go.Proofs.YtgegccpdegaccaaGreatDoor
noncomputable def q295 : M := mv cF s2 $ mv g0 s3 $ v2 eqIV g3 (cu 95) s4 $ mv g4 s5 $ gd g5 2 s6 (mv g0 s6) $ gd g5 2 s7 (rx (.ib .or) (ac g6 (ac (cu 32) an)) s7) $ gd g5 2 s8 (v2 geV g7 (cu 97) s8) $ gd g5 2 s9 (mv g8 s9) $ gd g9 1 s10 (mv g0 s10) $ gd g9 1 s11 (rx (.ib .or) (ac g10 (ac (cu 32) an)) s11) $ gd g9 1 s12 (v2 leV g11 (cu 122) s12) $ gd g5 2 s13 (v3 pickV g9 g12 cF s13) $ v3 pickV g5 cT g13 s14 $ mv g14 s2 $ retM
noncomputable def F295 : FQ := fnq1 8 q295 (rvT g2)
theorem e295 : compFn Tryz.prog [] 295 = F295 := by kernel_rfl
noncomputable def q298_0 : M := gd g40 1 s44 (mv g2 s44) $ gd g40 1 s45 (v1 lenLV g44 s45) $ gd g40 1 s46 (v2 leV g43 g45 s46) $ v3 pickV g40 g46 cF s47 $ mv g47 s48 $ gd g48 1 s49 (v1 (faV 1) g11 s49) $ gd g48 1 s50 (h1 ldV g49 s50) $ gd g48 1 s51 (mv g2 s51) $ gd g48 1 s52 (v1 (faV 1) g11 s52) $ gd g48 1 s53 (h1 ldV g52 s53) $ gd g48 1 s54 (v1 lenLV g53 s54) $ gd g48 1 s55 (rx (.slL 1 false true) (ac g51 (a1 g54)) s55) $ gd g48 1 s56 (cl 310 (ac g50 (a1 g55)) s56) $ v3 pickV g48 g56 cF s57 $ cnd g57 (v1 (faV 2) g11 s58 $ h1 ldV g58 s59 $ v1 (faV 1) g11 s60 $ h1 ldV g60 s61 $ v1 lenLV g61 s62 $ mv g59 s8 $ mv g62 s9 $ nrmM) (nrmM)
noncomputable def q298_1 : M := sq (blk 1 (v2 (iaV 3) g23 g25 s27 $ h1 (ldA 3) g27 s28 $ e0 (alR [Zi, Ns, Zi] 3) s11 $ n2 (stA 3) g11 g28 $ v1 (faV 0) g11 s29 $ h1 ldV g29 s30 $ mv g1 s31 $ v2 eqIV g30 g31 s32 $ mv g32 s33 $ gd g33 1 s34 (v1 (faV 1) g11 s34) $ gd g33 1 s35 (h1 ldV g34 s35) $ gd g33 1 s36 (v1 lenLV g35 s36) $ gd g33 1 s37 (mv g9 s37) $ gd g33 1 s38 (v2 geV g36 g37 s38) $ v3 pickV g33 g38 cF s39 $ mv g39 s40 $ gd g40 1 s41 (v1 (faV 1) g11 s41) $ gd g40 1 s42 (h1 ldV g41 s42) $ gd g40 1 s43 (v1 lenLV g42 s43) $ q298_0)) (v2 addV g25 (ci 1) s63 $ mv g63 s25 $ nrmM)
noncomputable def q298_2 : M := sq (mv g1 s14 $ v2 neIV g14 (cst (.int .i64 (.negSucc 0))) s15 $ cnd g15 (v1 (faV 1) g3 s16 $ h1 ldV g16 s17 $ mv g1 s18 $ v2 (iaV 2) g17 g18 s19 $ v1 (faV 1) g19 s20 $ h1 ldV g20 s21 $ mv g21 s8 $ nrmM) (nrmM)) (sq (v1 (faV 2) g3 s22 $ h1 ldV g22 s23 $ v1 lenLV g23 s24 $ mv (ci 0) s25 $ blk 0 (lp (v2 ltV g25 g24 s26 $ sq (cnd g26 (nrmM) (extM 0)) (q298_1)))) (mv g8 s64 $ mv g9 s65 $ mv g64 s6 $ mv g65 s7 $ retM))
noncomputable def q298 : M := e1 bxR g0 s3 $ mv (ci 0) s6 $ mv (ci 0) s7 $ v1 (faV 0) g3 s12 $ h1 ldV g12 s13 $ mv g13 s8 $ mv (ci 0) s9 $ q298_2
noncomputable def F298 : FQ := fnqT 8 q298 (rc (rvT g6) (rc (rvT g7) rn))
theorem e298 : compFn Tryz.prog [] 298 = F298 := by kernel_rfl
noncomputable def q299_0 : M := mv g6 s3 $ blk 0 (lp (sq (mv g3 s7 $ v2 geV g7 (ci 0) s8 $ cnd g8 (nrmM) (extM 0)) (sq (blk 1 (mv g0 s11 $ mv g3 s12 $ h1 ldV g1 s13 $ mv g3 s14 $ v2 (iaV 2) g13 g14 s15 $ h1 (ldA 2) g15 s16 $ cv g11 (ac g12 (a1 g16)) s17 $ v1 notV g17 s18 $ cnd g18 (retM) (nrmM))) (mv g3 s9 $ v2 subV g9 (ci 1) s10 $ mv g10 s3 $ nrmM))))
noncomputable def q299 : M := h1 ldV g1 s4 $ v1 lenLV g4 s5 $ v2 subV g5 (ci 1) s6 $ q299_0
noncomputable def F299 : FQ := fnqT 8 q299 rn
theorem e299 : compFn Tryz.prog [] 299 = F299 := by kernel_rfl
noncomputable def q300_0 : M := mv (ci 0) s8 $ blk 0 (lp (v2 ltV g8 g7 s9 $ sq (cnd g9 (nrmM) (extM 0)) (sq (blk 1 (mv g8 s10 $ mv g10 s5 $ mv g1 s11 $ mv g0 s12 $ mv g5 s13 $ v2 (iaV 3) g12 g13 s14 $ h1 (ldA 3) g14 s15 $ cv g11 (a1 g15) s16 $ cnd g16 (mv g5 s17 $ mv g17 s4 $ retM) (nrmM))) (v2 addV g8 (ci 1) s18 $ mv g18 s8 $ nrmM))))
noncomputable def q300 : M := mv (ci 0) s4 $ sq (mv g0 s6 $ v1 lenLV g6 s7 $ q300_0) (mv (cst (.int .i64 (.negSucc 0))) s4 $ retM)
noncomputable def F300 : FQ := fnq1 8 q300 (rvT g4)
theorem e300 : compFn Tryz.prog [] 300 = F300 := by kernel_rfl
noncomputable def q304 : M := e1 bxR g0 s3 $ mv (ci 0) s6 $ mv (ci 0) s7 $ sq (mv g2 s8 $ v1 notV g8 s9 $ cnd g9 (mv (ci 0) s6 $ mv (ci 17) s7 $ retM) (nrmM)) (v1 (faV 0) g3 s10 $ h1 ldV g10 s11 $ mv g1 s12 $ cl 257 (ac g11 (a1 g12)) s13 $ v1 (exV 0) g13 s14 $ v1 (exV 1) g13 s15 $ mv g14 s6 $ mv g15 s7 $ retM)
noncomputable def F304 : FQ := fnqT 8 q304 (rc (rvT g6) (rc (rvT g7) rn))
theorem e304 : compFn Tryz.prog [] 304 = F304 := by kernel_rfl
noncomputable def q305_0 : M := sq (blk 1 (mv g9 s11 $ v2 (iaV 1) g7 g9 s12 $ h1 ldV g12 s13 $ mv g11 s5 $ mv g13 s6 $ v1 (faV 1) g2 s14 $ h1 ldV g14 s15 $ mv g5 s16 $ v2 (iaV 4) g15 g16 s17 $ v1 (faV 0) g17 s18 $ h1 ldV g18 s19 $ mv g6 s20 $ v2 neIV g19 g20 s21 $ cnd g21 (mv cF s4 $ retM) (nrmM))) (v2 addV g9 (ci 1) s22 $ mv g22 s9 $ nrmM)
noncomputable def q305 : M := e1 bxR g0 s2 $ mv cF s4 $ sq (mv g1 s7 $ v1 lenLV g7 s8 $ mv (ci 0) s9 $ blk 0 (lp (v2 ltV g9 g8 s10 $ sq (cnd g10 (nrmM) (extM 0)) (q305_0)))) (mv cT s4 $ retM)
noncomputable def F305 : FQ := fnq1 8 q305 (rvT g4)
theorem e305 : compFn Tryz.prog [] 305 = F305 := by kernel_rfl
noncomputable def q308 : M := mv cF s4 $ mv g0 s5 $ mv g1 s6 $ cl 311 (ac g5 (a1 g6)) s7 $ v2 geV g7 (ci 0) s8 $ mv g8 s4 $ retM
noncomputable def F308 : FQ := fnq1 8 q308 (rvT g4)
theorem e308 : compFn Tryz.prog [] 308 = F308 := by kernel_rfl
noncomputable def q309 : M := e1 bxR g0 s3 $ mv cF s4 $ v1 (faV 0) g3 s5 $ h1 ldV g5 s6 $ h1 ldV g1 s7 $ v2 eqIV g6 g7 s8 $ mv g8 s9 $ gd g9 1 s10 (v1 (faV 1) g3 s10) $ gd g9 1 s11 (h1 ldV g10 s11) $ gd g9 1 s12 (h1 ldV g2 s12) $ gd g9 1 s13 (cl 310 (ac g11 (a1 g12)) s13) $ v3 pickV g9 g13 cF s14 $ mv g14 s4 $ retM
noncomputable def F309 : FQ := fnq1 8 q309 (rvT g4)
theorem e309 : compFn Tryz.prog [] 309 = F309 := by kernel_rfl
noncomputable def q310_0 : M := blk 0 (lp (v2 ltV g13 g12 s14 $ sq (cnd g14 (nrmM) (extM 0)) (sq (blk 1 (mv g13 s15 $ mv g15 s5 $ mv g0 s16 $ mv g5 s17 $ v2 (iaV 1) g16 g17 s18 $ h1 ldV g18 s19 $ mv g1 s20 $ mv g5 s21 $ v2 (iaV 1) g20 g21 s22 $ h1 ldV g22 s23 $ v2 neSV g19 g23 s24 $ cnd g24 (mv cF s4 $ retM) (nrmM))) (v2 addV g13 (ci 1) s25 $ mv g25 s13 $ nrmM))))
noncomputable def q310 : M := mv cF s4 $ sq (mv g0 s6 $ v1 lenLV g6 s7 $ mv g1 s8 $ v1 lenLV g8 s9 $ v2 neIV g7 g9 s10 $ cnd g10 (mv cF s4 $ retM) (nrmM)) (sq (mv g0 s11 $ v1 lenLV g11 s12 $ mv (ci 0) s13 $ q310_0) (mv cT s4 $ retM))
noncomputable def F310 : FQ := fnq1 8 q310 (rvT g4)
theorem e310 : compFn Tryz.prog [] 310 = F310 := by kernel_rfl
noncomputable def q311_0 : M := mv (ci 0) s8 $ blk 0 (lp (v2 ltV g8 g7 s9 $ sq (cnd g9 (nrmM) (extM 0)) (sq (blk 1 (mv g8 s10 $ mv g10 s5 $ mv g1 s11 $ mv g0 s12 $ mv g5 s13 $ v2 (iaV 2) g12 g13 s14 $ h1 (ldA 2) g14 s15 $ cv g11 (a1 g15) s16 $ cnd g16 (mv g5 s17 $ mv g17 s4 $ retM) (nrmM))) (v2 addV g8 (ci 1) s18 $ mv g18 s8 $ nrmM))))
noncomputable def q311 : M := mv (ci 0) s4 $ sq (mv g0 s6 $ v1 lenLV g6 s7 $ q311_0) (mv (cst (.int .i64 (.negSucc 0))) s4 $ retM)
noncomputable def F311 : FQ := fnq1 8 q311 (rvT g4)
theorem e311 : compFn Tryz.prog [] 311 = F311 := by kernel_rfl
noncomputable def q313_0 : M := v2 eqSV g3 (cst (.str [105,51,50])) s9 $ mv g9 s4 $ cnd g4 (nrmM) (v2 eqSV g3 (cst (.str [117,56])) s10 $ mv g10 s4 $ cnd g4 (nrmM) (v2 eqSV g3 (cst (.str [117,49,54])) s11 $ mv g11 s4 $ cnd g4 (nrmM) (v2 eqSV g3 (cst (.str [117,51,50])) s12 $ mv g12 s4 $ cnd g4 (nrmM) (v2 eqSV g3 (cst (.str [116,101,120,116])) s13 $ mv g13 s4 $ cnd g4 (nrmM) (v2 eqSV g3 (cst (.str [104,97,115])) s14 $ mv g14 s4 $ nrmM)))))
noncomputable def q313_1 : M := sq (mv g0 s3 $ blk 0 (sq (v2 eqSV g3 (cst (.str [108,101,110])) s5 $ mv g5 s4 $ cnd g4 (nrmM) (v2 eqSV g3 (cst (.str [110,111,116])) s6 $ mv g6 s4 $ cnd g4 (nrmM) (v2 eqSV g3 (cst (.str [105,56])) s7 $ mv g7 s4 $ cnd g4 (nrmM) (v2 eqSV g3 (cst (.str [105,49,54])) s8 $ mv g8 s4 $ cnd g4 (nrmM) (q313_0))))) (cnd g4 (mv (ci 1) s2 $ retM) (nrmM)))) (mv (ci 2) s2 $ retM)
noncomputable def q313 : M := mv (ci 0) s2 $ q313_1
noncomputable def F313 : FQ := fnq1 8 q313 (rvT g2)
theorem e313 : compFn Tryz.prog [] 313 = F313 := by kernel_rfl
noncomputable def q314_0 : M := cnd g6 (v1 (faV 3) g1 s8 $ h1 ldV g8 s9 $ v1 lenSV g9 s10 $ cl 333 (a1 g10) s11 $ v1 (exV 0) g11 s12 $ v1 (exV 1) g11 s13 $ n2 (stA 6) g2 g12 $ mv g13 s3 $ retM) (sq (v2 eqIV g5 (ci 4) s15 $ mv g15 s14 $ cnd g14 (nrmM) (v2 eqIV g5 (ci 5) s16 $ mv g16 s14 $ nrmM)) (cnd g14 (v1 (faV 5) g1 s17 $ h1 ldV g17 s18 $ v1 lenLV g18 s19 $ cl 333 (a1 g19) s20 $ v1 (exV 0) g20 s21 $ v1 (exV 1) g20 s22 $ n2 (stA 6) g2 g21 $ mv g22 s3 $ retM) (nrmM)))
noncomputable def q314 : M := e1 bxR g0 s1 $ e0 (alR [Zi, Ff, Zi, Se, Ns, Ns] 6) s2 $ mv (ci 0) s3 $ sq (v1 (faV 0) g1 s4 $ h1 ldV g4 s5 $ blk 0 (v2 eqIV g5 (ci 3) s7 $ mv g7 s6 $ q314_0)) (cl 312 (ac (ci 17) an) s23 $ v1 (exV 0) g23 s24 $ v1 (exV 1) g23 s25 $ n2 (stA 6) g2 g24 $ mv g25 s3 $ retM)
noncomputable def F314 : FQ := fnqT 8 q314 (rc (rvA 6 g2) (rc (rvT g3) rn))
theorem e314 : compFn Tryz.prog [] 314 = F314 := by kernel_rfl
noncomputable def q315 : M := e0 (alR [Zi, Ff, Zi, Se, Ns, Ns] 6) s2 $ mv (ci 0) s3 $ mv g0 s4 $ rx (.bst [Zi, Ff, Zi, Se, Ns, Ns] [(0, 0, 1), (1, 1, 1)]) (ac (ci 1) (a1 g4)) s5 $ n2 (stA 6) g2 g5 $ mv (ci 0) s3 $ retM
noncomputable def F315 : FQ := fnqT 6 q315 (rc (rvA 6 g2) (rc (rvT g3) rn))
theorem e315 : compFn Tryz.prog [] 315 = F315 := by kernel_rfl
noncomputable def q319_0 : M := v2 eqSV g12 (cst (.str [117,56])) s83 $ mv g83 s82 $ cnd g82 (mv g1 s84 $ cl 334 (ac g84 (ac (cst (.int .u64 (.ofNat 8))) (ac cF an))) s85 $ cl 333 (a1 g85) s86 $ v1 (exV 0) g86 s87 $ v1 (exV 1) g86 s88 $ n2 (stA 6) g6 g87 $ mv g88 s7 $ retM) (v2 eqSV g12 (cst (.str [117,49,54])) s90 $ mv g90 s89 $ cnd g89 (mv g1 s91 $ cl 334 (ac g91 (ac (cst (.int .u64 (.ofNat 16))) (ac cF an))) s92 $ cl 333 (a1 g92) s93 $ v1 (exV 0) g93 s94 $ v1 (exV 1) g93 s95 $ n2 (stA 6) g6 g94 $ mv g95 s7 $ retM) (nrmM))
noncomputable def q319_1 : M := v2 eqSV g12 (cst (.str [105,49,54])) s69 $ mv g69 s68 $ cnd g68 (mv g1 s70 $ cl 334 (ac g70 (ac (cst (.int .u64 (.ofNat 16))) (ac cT an))) s71 $ cl 333 (a1 g71) s72 $ v1 (exV 0) g72 s73 $ v1 (exV 1) g72 s74 $ n2 (stA 6) g6 g73 $ mv g74 s7 $ retM) (v2 eqSV g12 (cst (.str [105,51,50])) s76 $ mv g76 s75 $ cnd g75 (mv g1 s77 $ cl 334 (ac g77 (ac (cst (.int .u64 (.ofNat 32))) (ac cT an))) s78 $ cl 333 (a1 g78) s79 $ v1 (exV 0) g79 s80 $ v1 (exV 1) g79 s81 $ n2 (stA 6) g6 g80 $ mv g81 s7 $ retM) (q319_0))
noncomputable def q319_2 : M := v2 eqSV g12 (cst (.str [115,104,114])) s54 $ mv g54 s53 $ cnd g53 (mv g1 s55 $ mv g8 s56 $ gnT (opAt Tryz.f319 [1,1,0,1,0,1,1,1,1,1,1,1,1,1,1,1,0,0] 2) s57 $ cl 333 (a1 g57) s58 $ v1 (exV 0) g58 s59 $ v1 (exV 1) g58 s60 $ n2 (stA 6) g6 g59 $ mv g60 s7 $ retM) (v2 eqSV g12 (cst (.str [105,56])) s62 $ mv g62 s61 $ cnd g61 (mv g1 s63 $ cl 334 (ac g63 (ac (cst (.int .u64 (.ofNat 8))) (ac cT an))) s64 $ cl 333 (a1 g64) s65 $ v1 (exV 0) g65 s66 $ v1 (exV 1) g65 s67 $ n2 (stA 6) g6 g66 $ mv g67 s7 $ retM) (q319_1))
noncomputable def q319_3 : M := mv g38 s37 $ cnd g37 (mv g1 s39 $ mv g2 s40 $ rx (.ib .mul) (ac g39 (a1 g40)) s41 $ cl 333 (a1 g41) s42 $ v1 (exV 0) g42 s43 $ v1 (exV 1) g42 s44 $ n2 (stA 6) g6 g43 $ mv g44 s7 $ retM) (v2 eqSV g12 (cst (.str [115,104,108])) s46 $ mv g46 s45 $ cnd g45 (mv g1 s47 $ mv g8 s48 $ gnT (opAt Tryz.f319 [1,1,0,1,0,1,1,1,1,1,1,1,1,1,0,0] 2) s49 $ cl 333 (a1 g49) s50 $ v1 (exV 0) g50 s51 $ v1 (exV 1) g50 s52 $ n2 (stA 6) g6 g51 $ mv g52 s7 $ retM) (q319_2))
noncomputable def q319_4 : M := cnd g21 (mv g1 s23 $ mv g2 s24 $ v2 addV g23 g24 s25 $ cl 333 (a1 g25) s26 $ v1 (exV 0) g26 s27 $ v1 (exV 1) g26 s28 $ n2 (stA 6) g6 g27 $ mv g28 s7 $ retM) (v2 eqSV g12 (cst (.str [115,117,98])) s30 $ mv g30 s29 $ cnd g29 (mv g1 s31 $ mv g2 s32 $ v2 subV g31 g32 s33 $ cl 333 (a1 g33) s34 $ v1 (exV 0) g34 s35 $ v1 (exV 1) g34 s36 $ n2 (stA 6) g6 g35 $ mv g36 s7 $ retM) (v2 eqSV g12 (cst (.str [109,117,108])) s38 $ q319_3))
noncomputable def q319_5 : M := sq (mv g0 s12 $ blk 0 (v2 eqSV g12 (cst (.str [108,116])) s14 $ mv g14 s13 $ cnd g13 (mv g1 s15 $ mv g2 s16 $ v2 ltV g15 g16 s17 $ cl 315 (a1 g17) s18 $ v1 (exV 0) g18 s19 $ v1 (exV 1) g18 s20 $ n2 (stA 6) g6 g19 $ mv g20 s7 $ retM) (v2 eqSV g12 (cst (.str [97,100,100])) s22 $ mv g22 s21 $ q319_4))) (mv g1 s96 $ cl 334 (ac g96 (ac (cst (.int .u64 (.ofNat 32))) (ac cF an))) s97 $ cl 333 (a1 g97) s98 $ v1 (exV 0) g98 s99 $ v1 (exV 1) g98 s100 $ n2 (stA 6) g6 g99 $ mv g100 s7 $ retM)
noncomputable def q319 : M := e0 (alR [Zi, Ff, Zi, Se, Ns, Ns] 6) s6 $ mv (ci 0) s7 $ mv g2 s9 $ rx (.conv .u64) (a1 g9) s10 $ rx (.ib .and) (ac g10 (ac (cst (.int .u64 (.ofNat 63))) an)) s11 $ mv g11 s8 $ q319_5
noncomputable def F319 : FQ := fnqT 8 q319 (rc (rvA 6 g6) (rc (rvT g7) rn))
theorem e319 : compFn Tryz.prog [] 319 = F319 := by kernel_rfl
noncomputable def q333 : M := e0 (alR [Zi, Ff, Zi, Se, Ns, Ns] 6) s2 $ mv (ci 0) s3 $ mv g0 s4 $ rx (.bst [Zi, Ff, Zi, Se, Ns, Ns] [(0, 0, 1), (2, 2, 1)]) (ac (ci 2) (a1 g4)) s5 $ n2 (stA 6) g2 g5 $ mv (ci 0) s3 $ retM
noncomputable def F333 : FQ := fnqT 6 q333 (rc (rvA 6 g2) (rc (rvT g3) rn))
theorem e333 : compFn Tryz.prog [] 333 = F333 := by kernel_rfl
end Go.Proofs.YtgegccpdegaccaaGreatDoor
