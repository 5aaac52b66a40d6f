/- Certificates: what was run once. -/
import Derived.Test.YtnjonnilpfenfaaGreatDoorFc
open Go.Ab
set_option maxRecDepth 100000
namespace Go.Proofs.YtnjonnilpfenfaaGreatDoor.VmSteps
def vsX101 : PT AV := Nd (.int .u64 (.ofNat 0)) (Lf .nilslice) Em
def vsX100 : PT AV := Nd Se (Nd Se (Lf Se) Em) (Nd Se (Lf Se) Em)
def vsX99 : Blk := Ce (Nd (Pp 4259 0) (Lf (Sl 7001 0 2 2 2)) Em) 2
def vsX98 : PT AV := Nd (Ii 0) (Nd (Ii 0) (Lf .nilslice) Em) (Lf Se)
def vsX97 : AV := .agg [(Ii 9), (.str [65]), .nilslice, .nilslice]
def vsX96 : PT AV := Nd (Ii 0) (Nd (Ii 0) (Lf (Ii 0)) Em) (Lf (Ii 0))
def vsX95 : PT AV := Nd (Ii 31) (Nd (Ii 7) (Lf Ff) Em) (Lf .nilslice)
def vsX94 : PT AV := Nd Se (Nd (Ii 37) (Lf .nilslice) Em) (Lf (Ii 1))
def vsX93 : Blk := Ce (Nd (.str [107]) (Lf (.str [110])) Em) 2 false
def vsX92 : Blk := Ce (Nd (Bu 40) (Lf (Bu 49)) (Lf (Bu 40))) 3 false
def vsX91 : PT AV := Nd (Ii 0) (Nd Se (Lf .nilslice) Em) (Lf .nilslice)
def vsX90 : PT AV := Nd (Ii 2) (Nd .nilslice (Lf .nilslice) Em) (Lf Ff)
def vsX89 : PT AV := Nd Se (Nd .nilslice (Lf (Ii 0)) Em) (Lf .nilslice)
def vsX88 : PT AV := Nd (Bu 40) (Nd (Bu 40) (Lf (Bu 40)) Em) (Lf (Bu 41))
def vsX87 : PT AV := Nd (Bu 49) (Nd (Bu 50) (Lf (Bu 41)) Em) (Lf (Bu 51))
def vsX86 : PT AV := Nd Se (Nd .nilslice (Lf .nilslice) Em) (Lf .nilslice)
def vsX85 : PT AV := Nd .nilslice (Nd (Ii 0) (Lf (Ii 0)) Em) (Lf .nilslice)
def vsX84 : PT AV := Nd .nilslice (Nd (Ii 0) (Lf .nilslice) Em) (Lf (Ii 0))
def vsX83 : PT AV := Nd .nilslice (Nd .nilslice (Lf (Ii 0)) Em) (Lf (Ii 0))
def vsX82 : PT AV := Nd .nilslice (Nd .nilslice (Lf (Ii 0)) Em) (Lf (Ii 4))
def vsX81 : PT AV := Nd (.int .u64 (.ofNat 0)) (Lf (.int .u64 (.ofNat 0))) Em
def vsX80 : PT AV := Nd (Ii 0) (Nd .nilslice (Lf .nilslice) Em) (Lf .nilslice)
def vsX79 : PT AV := Nd .nilslice (Nd .nilslice (Lf (Ii 0)) Em) (Lf .nilslice)
def vsX78 : PT AV := Nd .nilslice (Nd .nilslice (Lf .nilslice) Em) (Lf .nilslice)
def vsX77 : PT AV := Nd Ff (Nd Se (Lf Ff) (Lf .nilslice)) (Nd .nilslice (Lf Se) Em)
def vsX76 : AV := .agg [(Ii 5), Ff, (Ii 0), Se, (Sn 3138 0 2 1), (Sn 3139 0 2 6)]
def vsX75 : AV := .agg [(Ii 5), Ff, (Ii 0), Se, (Sn 6182 0 2 1), (Sn 6184 0 2 6)]
def vsX74 : PT AV := Nd (Ii 0) (Nd (Ii 0) (Lf (Ii 0)) Em) (Nd (Ii 0) (Lf (Ii 0)) Em)
def vsX73 : PT AV := Nd (Ii 0) (Nd (Ii 1) (Lf (Ii 2)) Em) (Nd (Ii 0) (Lf (Ii 0)) Em)
def vsX72 : Blk := Ce (Nd (Bu 40) (Nd (Bu 49) (Lf (Bu 50)) Em) (Lf (Bu 40))) 4 false
def vsX71 : PT AV := Nd .nilslice (Nd (Ii 0) (Lf (.int .u64 (.ofNat 0))) Em) (Lf (Ii 0))
def vsX70 : PT AV := Nd (Bu 40) (Nd (Bu 40) (Lf (Bu 40)) Em) (Nd (Bu 41) (Lf (Bu 41)) Em)
def vsX69 : PT AV := Nd (Bu 49) (Nd (Bu 50) (Lf (Bu 41)) Em) (Nd (Bu 51) (Lf (Bu 52)) Em)
def vsX68 : PT AV := Nd (Ii 0) (Nd .nilslice (Lf (Ii 1)) Em) (Nd (Ii 2) (Lf .nilslice) Em)
def vsX67 : PT AV := Nd (Ii 0) (Nd .nilslice (Lf (Ii 2)) Em) (Nd (Ii 2) (Lf .nilslice) Em)
def vsX66 : PT AV := Nd (.int .u64 (.ofNat 0)) (Nd .nilslice (Lf (Ii 0)) Em) (Lf .nilslice)
def vsX65 : PT AV := Nd (Ii 0) (Nd (Ii 0) (Lf .nilslice) Em) (Nd .nilslice (Lf .nilslice) Em)
def vsX64 : AV := .agg [(Ii 9), (.str [65]), .nilslice, .nilslice, (Sn 1108 0 1 5), .nilslice]
def vsX63 : PT AV := Nd .nilslice (Nd .nilslice (Lf .nilslice) Em) (Nd .nilslice (Lf .nilslice) Em)
def vsX62 : PT AV := Nd (Ii 0) (Nd Se (Lf (Ii 15)) (Lf Se)) (Nd .nilslice (Lf (Ii 0)) (Lf .nilslice))
def vsX61 : Blk := Ce (Nd (Bu 40) (Nd (Bu 49) (Lf (Bu 50)) Em) (Nd (Bu 40) (Lf (Bu 40)) Em)) 5 false
def vsX60 : Blk := Ce (Nd (Bu 40) (Nd (Bu 49) (Lf (Bu 50)) (Lf (Bu 51))) (Nd (Bu 40) (Lf (Bu 40)) Em)) 6 false
def vsX59 : AV := .agg [(.rng 0 (.ofNat 0) (.ofNat 0)), (.rng 0 (.ofNat 0) (.ofNat 5)), (.int .i64 (.negSucc 0))]
def vsX58 : AV := .agg [(.rng 0 (.ofNat 1) (.ofNat 1)), (.rng 0 (.ofNat 1) (.ofNat 5)), (.int .i64 (.negSucc 0))]
def vsX57 : AV := .agg [(.rng 0 (.ofNat 2) (.ofNat 2)), (.rng 0 (.ofNat 1) (.ofNat 5)), (.int .i64 (.negSucc 0))]
def vsX56 : AV := .agg [(.rng 0 (.ofNat 3) (.ofNat 3)), (.rng 0 (.ofNat 1) (.ofNat 5)), (.int .i64 (.negSucc 0))]
def vsX55 : AV := .agg [(.rng 0 (.ofNat 4) (.ofNat 4)), (.rng 0 (.ofNat 1) (.ofNat 5)), (.int .i64 (.negSucc 0))]
def vsX54 : AV := .agg [(.rng 0 (.ofNat 5) (.ofNat 5)), (.rng 0 (.ofNat 1) (.ofNat 5)), (.int .i64 (.negSucc 0))]
def vsX53 : AV := .agg [(.rng 0 (.ofNat 6) (.ofNat 6)), (.rng 0 (.ofNat 1) (.ofNat 5)), (.int .i64 (.negSucc 0))]
def vsX52 : AV := .agg [(.rng 0 (.ofNat 7) (.ofNat 7)), (.rng 0 (.ofNat 1) (.ofNat 5)), (.int .i64 (.negSucc 0))]
def vsX51 : AV := .agg [(.rng 0 (.ofNat 8) (.ofNat 8)), (.rng 0 (.ofNat 2) (.ofNat 5)), (.int .i64 (.negSucc 0))]
def vsX50 : AV := .agg [(.rng 0 (.ofNat 9) (.ofNat 9)), (.rng 0 (.ofNat 2) (.ofNat 5)), (.int .i64 (.negSucc 0))]
def vsX49 : AV := .agg [(.rng 0 (.ofNat 1) (.ofNat 119)), (.rng 0 (.ofNat 0) (.ofNat 0)), (.int .i64 (.negSucc 0))]
def vsX48 : AV := .agg [(.rng 0 (.ofNat 10) (.ofNat 10)), (.rng 0 (.ofNat 2) (.ofNat 5)), (.int .i64 (.negSucc 0))]
def vsX47 : AV := .agg [(.rng 0 (.ofNat 11) (.ofNat 11)), (.rng 0 (.ofNat 2) (.ofNat 5)), (.int .i64 (.negSucc 0))]
def vsX46 : AV := .agg [(.rng 0 (.ofNat 12) (.ofNat 12)), (.rng 0 (.ofNat 2) (.ofNat 5)), (.int .i64 (.negSucc 0))]
def vsX45 : AV := .agg [(.rng 0 (.ofNat 13) (.ofNat 13)), (.rng 0 (.ofNat 2) (.ofNat 5)), (.int .i64 (.negSucc 0))]
def vsX44 : AV := .agg [(.rng 0 (.ofNat 14) (.ofNat 14)), (.rng 0 (.ofNat 2) (.ofNat 5)), (.int .i64 (.negSucc 0))]
def vsX43 : AV := .agg [(.rng 0 (.ofNat 15) (.ofNat 15)), (.rng 0 (.ofNat 3) (.ofNat 5)), (.int .i64 (.negSucc 0))]
def vsX42 : AV := .agg [(.rng 0 (.ofNat 16) (.ofNat 16)), (.rng 0 (.ofNat 3) (.ofNat 5)), (.int .i64 (.negSucc 0))]
def vsX41 : AV := .agg [(.rng 0 (.ofNat 17) (.ofNat 17)), (.rng 0 (.ofNat 3) (.ofNat 5)), (.int .i64 (.negSucc 0))]
def vsX40 : AV := .agg [(.rng 0 (.ofNat 18) (.ofNat 18)), (.rng 0 (.ofNat 3) (.ofNat 5)), (.int .i64 (.negSucc 0))]
def vsX39 : AV := .agg [(.rng 0 (.ofNat 19) (.ofNat 19)), (.rng 0 (.ofNat 3) (.ofNat 5)), (.int .i64 (.negSucc 0))]
def vsX38 : AV := .agg [(.rng 0 (.ofNat 20) (.ofNat 20)), (.rng 0 (.ofNat 3) (.ofNat 5)), (.int .i64 (.negSucc 0))]
def vsX37 : AV := .agg [(.rng 0 (.ofNat 21) (.ofNat 21)), (.rng 0 (.ofNat 3) (.ofNat 5)), (.int .i64 (.negSucc 0))]
def vsX36 : AV := .agg [(.rng 0 (.ofNat 22) (.ofNat 22)), (.rng 0 (.ofNat 3) (.ofNat 5)), (.int .i64 (.negSucc 0))]
def vsX35 : AV := .agg [(.rng 0 (.ofNat 23) (.ofNat 23)), (.rng 0 (.ofNat 3) (.ofNat 5)), (.int .i64 (.negSucc 0))]
def vsX34 : AV := .agg [(.rng 0 (.ofNat 24) (.ofNat 24)), (.rng 0 (.ofNat 3) (.ofNat 5)), (.int .i64 (.negSucc 0))]
def vsX33 : AV := .agg [(.rng 0 (.ofNat 25) (.ofNat 25)), (.rng 0 (.ofNat 3) (.ofNat 5)), (.int .i64 (.negSucc 0))]
def vsX32 : AV := .agg [(.rng 0 (.ofNat 26) (.ofNat 26)), (.rng 0 (.ofNat 3) (.ofNat 5)), (.int .i64 (.negSucc 0))]
def vsX31 : AV := .agg [(.rng 0 (.ofNat 27) (.ofNat 27)), (.rng 0 (.ofNat 3) (.ofNat 5)), (.int .i64 (.negSucc 0))]
def vsX30 : AV := .agg [(.rng 0 (.ofNat 28) (.ofNat 28)), (.rng 0 (.ofNat 3) (.ofNat 5)), (.int .i64 (.negSucc 0))]
def vsX29 : AV := .agg [(.rng 0 (.ofNat 29) (.ofNat 29)), (.rng 0 (.ofNat 3) (.ofNat 5)), (.int .i64 (.negSucc 0))]
def vsX28 : AV := .agg [(.rng 0 (.ofNat 30) (.ofNat 30)), (.rng 0 (.ofNat 3) (.ofNat 5)), (.int .i64 (.negSucc 0))]
def vsX27 : AV := .agg [(.rng 0 (.ofNat 8) (.ofNat 119)), (.rng 0 (.ofNat 1) (.ofNat 1)), (.int .i64 (.negSucc 0))]
def vsX26 : PT AV := Nd .nilslice (Nd .nilslice (Nd Ff (Lf .nilslice) Em) (Lf .nilslice)) (Nd Se (Lf Se) (Lf (Ii 72)))
def vsX25 : AV := .agg [(.rng 0 (.ofNat 15) (.ofNat 119)), (.rng 0 (.ofNat 2) (.ofNat 2)), (.int .i64 (.negSucc 0))]
def vsX24 : AV := .agg [(.rng 0 (.ofNat 31) (.ofNat 119)), (.rng 0 (.ofNat 3) (.ofNat 5)), (.int .i64 (.negSucc 0))]
def vsX23 : Blk := Ce (Nd (Bu 40) (Nd (Bu 49) (Lf (Bu 50)) (Lf (Bu 51))) (Nd (Bu 40) (Lf (Bu 40)) (Lf (Bu 41)))) 7 false
def vsX22 : Blk := Ce (Nd (Bu 40) vsX87 (Nd (Bu 40) (Lf (Bu 40)) (Lf (Bu 41)))) 8 false
def vsX21 : PT AV := Nd .nilslice vsX96 vsX78
def vsX20 : PT AV := Nd .nilslice vsX80 vsX84
def vsX19 : PT AV := Nd .nilslice vsX79 (Nd (Ii 0) (Nd (Ii 0) (Lf .nilslice) Em) (Lf .nilslice))
def vsX18 : Blk := Ce (Nd (Bu 40) vsX87 vsX88) 9 false
def vsX17 : Blk := Ce (Nd (Ii 9) (Nd (Ii 0) (Nd (.str [116]) (Lf Ff) Em) (Lf .nilslice)) vsX86) 9 false
def vsX16 : Blk := Ce (Nd (Ii 9) (Nd (Ii 49) (Nd (.str [116]) (Lf Ff) Em) (Lf .nilslice)) vsX86) 9 false
def vsX15 : PT AV := Nd (Ii 0) (Nd .nilslice (Nd .nilslice (Lf (Ii 0)) Em) (Lf (Ii 14))) (Nd (Ii 0) vsX101 (Lf .nilslice))
def vsX14 : PT AV := Nd (Ii 0) vsX74 (Nd (Ii 0) (Nd (Ii 2) (Lf (Ii 4)) Em) (Nd (Ii 0) (Lf (Ii 0)) Em))
def vsX13 : PT AV := Nd (.int .u64 (.ofNat 0)) vsX81 vsX81
def vsX12 : Blk := Ce (Nd (Bu 40) vsX69 vsX88) 10 false
def vsX11 : Blk := Ce (Nd (Ii 4) vsX77 (Nd (Ii 0) (Nd .nilslice (Lf (Ii 3)) Em) (Nd (Ii 2) (Lf .nilslice) Em))) 12 false
def vsX10 : Blk := Ce (Nd (Ii 4) vsX77 (Nd (Ii 0) (Nd .nilslice (Lf (Ii 4)) Em) (Nd (Ii 2) (Lf .nilslice) Em))) 12 false
def vsX9 : Blk := Ce (Nd (Bu 40) vsX69 vsX70) 11 false
def vsX8 : PT AV := Nd .nilslice vsX63 vsX63
def vsX7 : Blk := Ce (Nd (Bu 40) (Nd (Bu 49) (Nd (Bu 50) (Lf (Bu 41)) (Lf (Bu 41))) (Nd (Bu 51) (Lf (Bu 52)) Em)) vsX70) 12 false
def vsX6 : PT AV := Nd (Ii 0) (Nd (Ii 0) (Nd (Ii 0) (Nd .nilslice (Lf .nilslice) Em) (Lf (Ii 0))) (Nd .nilslice (Lf (Ii 1)) (Lf .nilslice))) (Nd (.int .u64 (.ofNat 0)) (Nd .nilslice (Lf (Ii 0)) (Lf .nilslice)) (Nd .nilslice (Lf (.int .u64 (.ofNat 0))) (Lf .nilslice)))
def vsX5 : PT AV := Nd Se (Nd (Ii 10) (Nd (Ii 0) (Nd (Ii 4) (Lf (Ii 4)) Em) (Nd (Ii 0) (Lf (Ii 0)) Em)) (Nd (Ii 0) (Nd (Ii 11) (Lf (Ii 13)) Em) (Nd (Ii 0) (Lf (Ii 10)) Em))) (Nd Se vsX100 vsX100)
def vsX4 : Blk := Ce (Nd (Ii 0) vsX6 (Nd (Ii 0) vsX62 (Nd Se (Nd .nilslice (Lf (Ii 0)) (Lf .nilslice)) (Nd .nilslice (Lf Se) (Lf .nilslice))))) 32 false
def vsX3 : Blk := Ce (Nd (Ii 0) vsX6 (Nd (Ii 0) vsX62 (Nd Se (Nd .nilslice (Lf (Ii 3)) (Lf .nilslice)) (Nd .nilslice (Lf Se) (Lf .nilslice))))) 32 false
def vsX2 : Blk := Ce (Nd (.int .u64 (.ofNat 0)) (Nd (.int .u64 (.ofNat 0)) (Nd (.int .u64 (.ofNat 1)) (Nd (.int .u64 (.ofNat 0)) (Lf (.int .u64 (.ofNat 13))) Em) (Lf (.int .u64 (.ofNat 5)))) (Nd (.int .u64 (.ofNat 3)) (Lf (.int .u64 (.ofNat 4))) (Lf (.int .u64 (.ofNat 10))))) (Nd (.int .u64 (.ofNat 3)) (Nd (.int .u64 (.ofNat 1)) (Lf (.int .u64 (.ofNat 7))) (Lf (.int .u64 (.ofNat 8)))) (Nd (.int .u64 (.ofNat 2)) (Lf (.int .u64 (.ofNat 2))) (Lf (.int .u64 (.ofNat 1)))))) 16 false
def vsX1 : PT AV := Nd Se (Nd .nilslice (Nd (Ii 0) vsX74 vsX73) vsX8) (Nd .nilslice (Nd (.str [40]) vsX100 (Nd Se (Nd Se (Lf Se) Em) (Nd Se (Lf (.str [41])) Em))) vsX8)
def vsX0 : PT AV := Nd (Ii 0) (Nd (Ii 0) (Nd (Ii 0) (Nd .nilslice (Nd .nilslice (Nd .nilslice (Lf .nilslice) (Lf .nilslice)) (Nd .nilslice (Lf .nilslice) Em)) vsX63) (Nd (Ii 0) vsX74 vsX74)) (Nd .nilslice (Nd (Ii 0) (Nd (Ii 0) (Nd (Ii 1) (Lf (Ii 0)) Em) (Nd (Ii 0) (Lf (Ii 0)) Em)) vsX74) vsX8)) (Nd (.int .u64 (.ofNat 0)) (Nd .nilslice (Nd (Ii 0) vsX73 (Nd (Ii 0) (Nd (Ii 0) (Lf (Ii 3)) Em) (Nd (Ii 0) (Lf (Ii 0)) Em))) vsX8) (Nd .nilslice (Nd (.int .u64 (.ofNat 0)) vsX13 vsX13) vsX8))
def vsL0 : List (Nat × Blk) := [(10077, (.map [])), (10079, (Ce (Nd (Sn 10213 0 16 1) (Nd .nilslice (Lf (.map 10078)) Em) (Lf (.map 10077))) 4)), (10213, vsX2)]
def vsL1 : List (Nat × Blk) := [(7001, (Ce (Nd (Ii 1) (Nd (Sn 7002 0 2 16) (Lf (Sn 7003 0 12 16)) Em) (Lf (Ii 4))) 4)), (7002, vsX4), (7003, (Ce (Nd (Ii 0) vsX0 (Nd (Ii 0) (Nd (Ii 0) vsX5 (Nd .nilslice vsX14 (Nd .nilslice vsX63 (Nd .nilslice (Nd .nilslice (Lf (Sn 7004 0 2 16)) Em) (Nd .nilslice (Lf .nilslice) Em))))) vsX1)) 192 false)), (7004, vsX3)]
def vsL2 : List (Nat × Blk) := [(1096, (Ce (Nd (Ii 9) (Nd (.str [65]) (Lf .nilslice) Em) (Lf .nilslice)) 4)), (1103, vsX93), (1105, (Ce (Nd (Ii 4) (Nd Se (Nd (Sl 1096 0 1 1 4) (Lf .nilslice) Em) (Lf Se)) (Nd .nilslice (Lf (Ii 2)) (Lf .nilslice))) 8 false)), (1108, (Ce (Nd (.str [65]) (Nd (Ii 7) (Lf (Sn 1103 0 2 1)) Em) (Nd Se (Lf (Sn 1105 0 2 4)) Em)) 5 false))]
def vsL3 : List (Nat × Blk) := [(2034, vsX17), (2149, (Ce (Nd Se (Nd (Sn 2034 0 1 9) (Lf (Sn 2136 0 4 9)) Em) (Lf (.str [116]))) 4 false))]
def vsL4 : List (Nat × Blk) := [(2071, (Ce (Lf (.str [110])) 1 false)), (2072, (Ce (Nd (Ii 1) (Nd Se (Lf Se) (Lf Ff)) (Nd (Sn 2071 0 1 1) (Lf (Ii 0)) (Lf .nilslice))) 7)), (2073, (Ce (Lf (Sl 2072 0 1 1 7)) 1))]
def vsL5 : List (Nat × Blk) := [(2097, (Ce (Lf (.str [107])) 1 false)), (2098, (Ce (Nd (Ii 1) (Nd Se (Lf Se) (Lf Ff)) (Nd (Sn 2097 0 1 1) (Lf (Ii 0)) (Lf .nilslice))) 7)), (2099, (Ce (Lf (Sl 2098 0 1 1 7)) 1))]
def vsL6 : List (Nat × Blk) := [(2119, vsX16)]
def vsL7 : List (Nat × Blk) := [(2136, (Ce (Nd (Ii 1) (Nd (Ii 30) (Nd Se (Nd Ff (Nd .nilslice (Lf .nilslice) Em) (Lf (Sn 2119 0 1 9))) vsX94) (Nd .nilslice vsX90 (Nd (Sl 2073 0 1 1 1) (Lf Se) (Lf (.str [41]))))) (Nd (.str [40]) vsX26 (Nd .nilslice vsX95 (Nd .nilslice (Lf (Sl 2099 0 1 1 1)) (Lf Se))))) 36 false))]
def vsL8 : List (Nat × Blk) := [(3057, vsX93), (3058, vsX11), (3060, (Ce (Nd (Ii 5) (Nd Ff (Lf Se) (Lf (Sn 3058 0 2 6))) (Nd (Ii 0) (Lf (Sn 3057 0 2 1)) Em)) 6 false)), (3080, vsX93), (3081, (Ce (Nd (Ii 4) (Nd Ff (Nd Se (Lf Ff) (Lf .nilslice)) (Nd (Sn 3060 0 1 6) (Lf Se) Em)) vsX67) 12 false)), (3115, vsX93), (3116, vsX10), (3118, (Ce (Nd (Ii 5) (Nd Ff (Nd Se (Lf Ff) (Lf (Sn 3116 0 2 6))) (Nd (Sn 3081 0 2 6) (Lf Se) Em)) (Nd (Ii 0) (Nd (Sn 3080 0 2 1) (Lf (Ii 0)) Em) (Nd (Ii 5) (Lf (Sn 3115 0 2 1)) Em))) 12 false)), (3138, vsX93), (3139, (Ce (Nd (Ii 4) (Nd Ff (Nd Se (Lf Ff) (Lf .nilslice)) (Nd (Sn 3118 0 2 6) (Lf Se) Em)) vsX68) 12 false))]
def vsL9 : List (Nat × Blk) := [(4132, (.map [((.str [65]), (Ii 3))])), (4134, (Ce (Nd (Sn 4188 0 4 4) (Nd (.map 4131) (Lf (Ii 0)) Em) (Nd (.map 4132) (Lf (.map 4133)) Em)) 5)), (4161, (Ce (Lf (Ii 0)) 1 false)), (4184, vsX93), (4186, (Ce (Nd (Ii 1) (Lf (Ii 2)) Em) 2 false)), (4188, (Ce (Nd (Ii 9) (Nd (.str [65]) (Nd .nilslice (Nd (Sn 4161 0 1 1) (Lf (Sn 4186 0 2 1)) Em) (Lf .nilslice)) (Nd Se (Lf Se) (Lf Se))) (Nd .nilslice (Nd (Ii 4) (Lf (Ii 2)) (Lf (Ii 7))) (Nd .nilslice (Lf .nilslice) (Lf (Sn 4184 0 2 1))))) 16 false)), (4227, (Ce (Nd Se (Nd (Sn 4230 0 1 9) (Lf (Sn 4234 0 4 9)) Em) (Lf (.str [116]))) 4 false)), (4230, vsX17), (4234, (Ce (Nd (Ii 1) (Nd (Ii 30) (Nd Se (Nd Ff (Nd .nilslice (Lf .nilslice) Em) (Lf (Sn 4255 0 1 9))) vsX94) (Nd .nilslice vsX90 (Nd (Sn 4238 0 1 1) (Lf Se) (Lf (.str [41]))))) (Nd (.str [40]) vsX26 (Nd .nilslice vsX95 (Nd .nilslice (Lf (Sn 4247 0 1 1)) (Lf Se))))) 36 false)), (4238, (Ce (Lf (Sn 4241 0 1 7)) 1 false)), (4241, (Ce (Nd (Ii 1) (Nd Se (Lf Se) (Lf Ff)) (Nd (Sn 4244 0 1 1) (Lf (Ii 0)) (Lf .nilslice))) 7 false)), (4244, (Ce (Lf (.str [110])) 1 false)), (4247, (Ce (Lf (Sn 4250 0 1 7)) 1 false)), (4250, (Ce (Nd (Ii 1) (Nd Se (Lf Se) (Lf Ff)) (Nd (Sn 4253 0 1 1) (Lf (Ii 0)) (Lf .nilslice))) 7 false)), (4253, (Ce (Lf (.str [107])) 1 false)), (4255, vsX16), (4259, (Ce (Nd (Ii 9) (Nd (.str [65]) (Nd .nilslice (Lf (Pp 4134 0)) Em) (Lf .nilslice)) (Nd .nilslice (Nd (Sn 4225 0 1 5) (Lf (Sn 4287 0 2 2)) Em) (Lf (Sn 4227 0 2 2)))) 9)), (4287, (Ce (Nd Se (Nd (Ii 0) (Lf (Ii 0)) Em) (Lf (.str [116]))) 4 false))]
def vsL10 : List (Nat × Blk) := [(5040, (Ce (Nd (Pp 4259 0) (Lf (Sn 5214 0 2 2)) Em) 2)), (5054, vsX4), (5203, vsX3), (5212, (Ce (Nd (Ii 0) vsX0 (Nd (Ii 0) (Nd (Ii 0) vsX5 (Nd .nilslice vsX14 (Nd .nilslice vsX63 (Nd .nilslice (Nd .nilslice (Lf (Sn 5203 0 2 16)) Em) (Nd .nilslice (Lf .nilslice) Em))))) vsX1)) 192 false)), (5214, (Ce (Nd (Ii 1) (Nd (Sn 5054 0 2 16) (Lf (Sn 5212 0 12 16)) Em) (Lf (Ii 4))) 4 false))]
def vsL11 : List (Nat × Blk) := [(6100, vsX93), (6102, vsX11)]
def vsL12 : List (Nat × Blk) := [(6104, (Ce (Nd (Ii 5) (Nd Ff (Lf Se) (Lf (Sn 6102 0 2 6))) (Nd (Ii 0) (Lf (Sn 6100 0 2 1)) Em)) 6 false))]
def vsL13 : List (Nat × Blk) := [(6118, vsX93), (6120, (Ce (Nd (Ii 4) (Nd Ff (Nd Se (Lf Ff) (Lf .nilslice)) (Nd (Sn 6104 0 1 6) (Lf Se) Em)) vsX67) 12 false))]
def vsL14 : List (Nat × Blk) := [(6164, vsX93), (6166, vsX10)]
def vsL15 : List (Nat × Blk) := [(6168, (Ce (Nd (Ii 5) (Nd Ff (Nd Se (Lf Ff) (Lf (Sn 6166 0 2 6))) (Nd (Sn 6120 0 2 6) (Lf Se) Em)) (Nd (Ii 0) (Nd (Sn 6118 0 2 1) (Lf (Ii 0)) Em) (Nd (Ii 5) (Lf (Sn 6164 0 2 1)) Em))) 12 false))]
def vsL16 : List (Nat × Blk) := [(6182, vsX93), (6184, (Ce (Nd (Ii 4) (Nd Ff (Nd Se (Lf Ff) (Lf .nilslice)) (Nd (Sn 6168 0 2 6) (Lf Se) Em)) vsX68) 12 false))]
def vsL17 : List (Nat × Blk) := [(9087, vsX72)]
def vsL18 : List (Nat × Blk) := [(9116, vsX61)]
def vsL19 : List (Nat × Blk) := [(9138, vsX60)]
def vsL20 : List (Nat × Blk) := [(9163, vsX22)]
def vsL21 : List (Nat × Blk) := [(9174, vsX18)]
def vsL22 : List (Nat × Blk) := [(9196, vsX12)]
def vsL23 : List (Nat × Blk) := [(10214, (Ce (Nd (Pp 10079 0) (Nd (Ii 9) (Lf .nilslice) (Lf (.int .u64 (.ofNat 13)))) (Nd (.str [65]) (Lf .nilslice) Em)) 6))]
def vsL24 : List (Nat × Blk) := [(12139, vsX72)]
def vsL25 : List (Nat × Blk) := [(12163, vsX61)]
def vsL26 : List (Nat × Blk) := [(12172, vsX60)]
def vsL27 : List (Nat × Blk) := [(12197, vsX22)]
def vsL28 : List (Nat × Blk) := [(12215, vsX18)]
def vsL29 : List (Nat × Blk) := [(12224, vsX12)]
def vsY0 : List (Nat × Blk) := ([(7000, vsX99)] ++ vsL1)
def vsY1 : List (Nat × Blk) := (vsL7 ++ vsL3)
def vsY2 : List (Nat × Blk) := (vsL4 ++ (vsL16 ++ (vsL7 ++ vsL3)))
def vsY3 : List (Nat × Blk) := (vsL6 ++ (vsL15 ++ (vsL5 ++ (vsL4 ++ (vsL16 ++ (vsL7 ++ vsL3))))))
def vsY4 : List (Nat × Blk) := (vsL13 ++ (vsL6 ++ (vsL15 ++ (vsL5 ++ (vsL4 ++ (vsL16 ++ (vsL7 ++ vsL3)))))))
def vsY5 : List (Nat × Blk) := (vsL12 ++ (vsL13 ++ (vsL6 ++ (vsL15 ++ (vsL5 ++ (vsL4 ++ (vsL16 ++ (vsL7 ++ vsL3))))))))
def vsY6 : List (Nat × Blk) := (vsL11 ++ (vsL12 ++ (vsL13 ++ (vsL6 ++ (vsL15 ++ (vsL5 ++ (vsL4 ++ (vsL16 ++ (vsL7 ++ vsL3)))))))))
def vsY7 : List (Nat × Blk) := (vsL14 ++ (vsL11 ++ (vsL12 ++ (vsL13 ++ (vsL6 ++ (vsL15 ++ (vsL5 ++ (vsL4 ++ (vsL16 ++ (vsL7 ++ vsL3))))))))))
def vsY8 : List (Nat × Blk) := ([(7000, vsX99)] ++ (vsL23 ++ (vsL0 ++ vsL1)))
def g8_0 : List Cert := [⟨0, [], [], [], 265, Tt, []⟩]
def l8 : List Cert := g8_0
def g16_0 : List Cert := [⟨2000, [(.str [123,123,116,101,109,112,108,97,116,101,32,34,116,34,125,125,123,123,100,101,102,105,110,101,32,34,116,34,125,125,40,123,123,46,110,125,125,123,123,114,97,110,103,101,32,46,107,125,125,123,123,116,101,109,112,108,97,116,101,32,34,116,34,125,125,123,123,101,110,100,125,125,41,123,123,101,110,100,125,125])], [], [], 2150, (.tuple [(Sn 2149 0 2 2), (Ii 0), (Ii 0)]), (vsL6 ++ (vsL5 ++ (vsL4 ++ (vsL7 ++ vsL3))))⟩]
def l16 : List Cert := g16_0
def g17_0 : List Cert := [⟨4000, [vsX64, (Sn 2149 0 2 2)], (vsL2 ++ (vsL6 ++ (vsL5 ++ (vsL4 ++ (vsL7 ++ vsL3))))), [], 4394, (.tuple [(Pp 4259 0), (.agg [(Ii 0), Se, (Ii 0)])]), vsL9⟩]
def l17 : List Cert := g17_0
def g18_0 : List Cert := [⟨5000, [(Pp 4259 0)], vsL9, [], 5215, (.tuple [(Pp 5040 0), (Ii 0)]), vsL10⟩]
def l18 : List Cert := g18_0
def g19_0 : List Cert := [⟨10000, [vsX64, vsX97, vsX75], (vsL2 ++ (vsL14 ++ (vsL11 ++ (vsL12 ++ (vsL13 ++ (vsL15 ++ vsL16)))))), [], 10215, (.tuple [(Pp 10214 0), Se, (Ii 0)]), (vsL23 ++ vsL0)⟩]
def l19 : List Cert := g19_0
def g21_0 : List Cert := [⟨12000, [(Pp 7000 0), (Pp 10214 0), (Pp 11002 0), vsX59], vsY8, [], 12088, (.tuple [.nilslice, (Ii 36)]), []⟩,
 ⟨12000, [(Pp 7000 0), (Pp 10214 0), (Pp 11002 0), vsX49], vsY8, [], 12089, (.tuple [.nilslice, (Ii 35)]), []⟩,
 ⟨12000, [(Pp 7000 0), (Pp 10214 0), (Pp 11002 0), vsX58], vsY8, [], 12095, (.tuple [.nilslice, (Ii 36)]), []⟩]
def g21_1 : List Cert := [⟨12000, [(Pp 7000 0), (Pp 10214 0), (Pp 11002 0), vsX57], vsY8, [], 12100, (.tuple [(Sn 12097 0 1 1), (Ii 36)]), [(12097, (Ce (Lf (Bu 40)) 1 false))]⟩,
 ⟨12000, [(Pp 7000 0), (Pp 10214 0), (Pp 11002 0), vsX56], vsY8, [], 12102, (.tuple [(Sn 12097 0 1 1), (Ii 36)]), [(12097, (Ce (Lf (Bu 40)) 1 false))]⟩,
 ⟨12000, [(Pp 7000 0), (Pp 10214 0), (Pp 11002 0), vsX55], vsY8, [], 12109, (.tuple [(Sn 12106 0 2 1), (Ii 36)]), [(12106, (Ce (Nd (Bu 40) (Lf (Bu 49)) Em) 2 false))]⟩]
def g21_2 : List Cert := [⟨12000, [(Pp 7000 0), (Pp 10214 0), (Pp 11002 0), vsX54], vsY8, [], 12111, (.tuple [(Sn 12106 0 2 1), (Ii 36)]), [(12106, (Ce (Nd (Bu 40) (Lf (Bu 49)) Em) 2 false))]⟩,
 ⟨12000, [(Pp 7000 0), (Pp 10214 0), (Pp 11002 0), vsX53], vsY8, [], 12119, (.tuple [(Sn 12106 0 2 1), (Ii 36)]), [(12106, (Ce (Nd (Bu 40) (Lf (Bu 49)) Em) 2 false))]⟩,
 ⟨12000, [(Pp 7000 0), (Pp 10214 0), (Pp 11002 0), vsX52], vsY8, [], 12121, (.tuple [(Sn 12106 0 2 1), (Ii 36)]), [(12106, (Ce (Nd (Bu 40) (Lf (Bu 49)) Em) 2 false))]⟩]
def g21_3 : List Cert := [⟨12000, [(Pp 7000 0), (Pp 10214 0), (Pp 11002 0), vsX27], vsY8, [], 12122, (.tuple [(Sn 12106 0 2 1), (Ii 35)]), [(12106, (Ce (Nd (Bu 40) (Lf (Bu 49)) Em) 2 false))]⟩,
 ⟨12000, [(Pp 7000 0), (Pp 10214 0), (Pp 11002 0), vsX51], vsY8, [], 12128, (.tuple [(Sn 12106 0 2 1), (Ii 36)]), [(12106, (Ce (Nd (Bu 40) (Lf (Bu 49)) Em) 2 false))]⟩,
 ⟨12000, [(Pp 7000 0), (Pp 10214 0), (Pp 11002 0), vsX50], vsY8, [], 12133, (.tuple [(Sn 12130 0 3 1), (Ii 36)]), [(12130, vsX92)]⟩]
def g21_4 : List Cert := [⟨12000, [(Pp 7000 0), (Pp 10214 0), (Pp 11002 0), vsX48], vsY8, [], 12135, (.tuple [(Sn 12130 0 3 1), (Ii 36)]), [(12130, vsX92)]⟩,
 ⟨12000, [(Pp 7000 0), (Pp 10214 0), (Pp 11002 0), vsX47], vsY8, [], 12142, (.tuple [(Sn 12139 0 4 1), (Ii 36)]), vsL24⟩,
 ⟨12000, [(Pp 7000 0), (Pp 10214 0), (Pp 11002 0), vsX46], vsY8, [], 12144, (.tuple [(Sn 12139 0 4 1), (Ii 36)]), vsL24⟩]
def g21_5 : List Cert := [⟨12000, [(Pp 7000 0), (Pp 10214 0), (Pp 11002 0), vsX45], vsY8, [], 12152, (.tuple [(Sn 12139 0 4 1), (Ii 36)]), vsL24⟩,
 ⟨12000, [(Pp 7000 0), (Pp 10214 0), (Pp 11002 0), vsX44], vsY8, [], 12154, (.tuple [(Sn 12139 0 4 1), (Ii 36)]), vsL24⟩,
 ⟨12000, [(Pp 7000 0), (Pp 10214 0), (Pp 11002 0), vsX25], vsY8, [], 12155, (.tuple [(Sn 12139 0 4 1), (Ii 35)]), vsL24⟩]
def g21_6 : List Cert := [⟨12000, [(Pp 7000 0), (Pp 10214 0), (Pp 11002 0), vsX43], vsY8, [], 12161, (.tuple [(Sn 12139 0 4 1), (Ii 36)]), vsL24⟩,
 ⟨12000, [(Pp 7000 0), (Pp 10214 0), (Pp 11002 0), vsX42], vsY8, [], 12166, (.tuple [(Sn 12163 0 5 1), (Ii 36)]), vsL25⟩,
 ⟨12000, [(Pp 7000 0), (Pp 10214 0), (Pp 11002 0), vsX41], vsY8, [], 12168, (.tuple [(Sn 12163 0 5 1), (Ii 36)]), vsL25⟩]
def g21_7 : List Cert := [⟨12000, [(Pp 7000 0), (Pp 10214 0), (Pp 11002 0), vsX40], vsY8, [], 12175, (.tuple [(Sn 12172 0 6 1), (Ii 36)]), vsL26⟩,
 ⟨12000, [(Pp 7000 0), (Pp 10214 0), (Pp 11002 0), vsX39], vsY8, [], 12177, (.tuple [(Sn 12172 0 6 1), (Ii 36)]), vsL26⟩,
 ⟨12000, [(Pp 7000 0), (Pp 10214 0), (Pp 11002 0), vsX38], vsY8, [], 12184, (.tuple [(Sn 12172 0 6 1), (Ii 36)]), vsL26⟩]
def g21_8 : List Cert := [⟨12000, [(Pp 7000 0), (Pp 10214 0), (Pp 11002 0), vsX37], vsY8, [], 12195, (.tuple [(Sn 12186 0 7 1), (Ii 36)]), [(12186, vsX23)]⟩,
 ⟨12000, [(Pp 7000 0), (Pp 10214 0), (Pp 11002 0), vsX36], vsY8, [], 12204, (.tuple [(Sn 12197 0 8 1), (Ii 36)]), vsL27⟩,
 ⟨12000, [(Pp 7000 0), (Pp 10214 0), (Pp 11002 0), vsX35], vsY8, [], 12206, (.tuple [(Sn 12197 0 8 1), (Ii 36)]), vsL27⟩]
def g21_9 : List Cert := [⟨12000, [(Pp 7000 0), (Pp 10214 0), (Pp 11002 0), vsX34], vsY8, [], 12213, (.tuple [(Sn 12197 0 8 1), (Ii 36)]), vsL27⟩,
 ⟨12000, [(Pp 7000 0), (Pp 10214 0), (Pp 11002 0), vsX33], vsY8, [], 12218, (.tuple [(Sn 12215 0 9 1), (Ii 36)]), vsL28⟩,
 ⟨12000, [(Pp 7000 0), (Pp 10214 0), (Pp 11002 0), vsX32], vsY8, [], 12220, (.tuple [(Sn 12215 0 9 1), (Ii 36)]), vsL28⟩]
def g21_10 : List Cert := [⟨12000, [(Pp 7000 0), (Pp 10214 0), (Pp 11002 0), vsX31], vsY8, [], 12227, (.tuple [(Sn 12224 0 10 1), (Ii 36)]), vsL29⟩,
 ⟨12000, [(Pp 7000 0), (Pp 10214 0), (Pp 11002 0), vsX30], vsY8, [], 12229, (.tuple [(Sn 12224 0 10 1), (Ii 36)]), vsL29⟩,
 ⟨12000, [(Pp 7000 0), (Pp 10214 0), (Pp 11002 0), vsX29], vsY8, [], 12236, (.tuple [(Sn 12224 0 10 1), (Ii 36)]), vsL29⟩]
def g21_11 : List Cert := [⟨12000, [(Pp 7000 0), (Pp 10214 0), (Pp 11002 0), vsX28], vsY8, [], 12247, (.tuple [(Sn 12238 0 11 1), (Ii 36)]), [(12238, vsX9)]⟩,
 ⟨12000, [(Pp 7000 0), (Pp 10214 0), (Pp 11002 0), vsX24], vsY8, [], 12250, (.tuple [(Sn 12249 0 12 1), (Ii 0)]), [(12249, vsX7)]⟩]
def l21 : List Cert := g21_0 ++ (g21_1 ++ (g21_2 ++ (g21_3 ++ (g21_4 ++ (g21_5 ++ (g21_6 ++ (g21_7 ++ (g21_8 ++ (g21_9 ++ (g21_10 ++ (g21_11)))))))))))
def g22_0 : List Cert := [⟨11000, [.nilslice], [], [], 11003, (Pp 11002 0), []⟩]
def l22 : List Cert := g22_0
def g23_0 : List Cert := [⟨1000, [(.str [100,97,116,97,32,65,59,32,116,121,112,101,32,65,32,61,32,123,110,58,32,73,110,116,44,32,107,58,32,76,105,115,116,60,65,62,125,59])], [], [], 1109, (.tuple [vsX64, (Ii 0)]), vsL2⟩]
def l23 : List Cert := g23_0
def g24_0 : List Cert := [⟨3000, [(.str [123,34,107,34,58,91,123,34,107,34,58,91,123,34,107,34,58,91,93,44,34,110,34,58,51,125,93,44,34,110,34,58,50,125,44,123,34,107,34,58,91,93,44,34,110,34,58,52,125,93,44,34,110,34,58,49,125])], [], [], 3167, (.tuple [vsX76, (Ii 0)]), vsL8⟩]
def l24 : List Cert := g24_0
def g25_0 : List Cert := [⟨6000, [vsX64, vsX97, vsX76], (vsL8 ++ vsL2), [], 6186, (.tuple [vsX75, (Ii 0)]), (vsL14 ++ (vsL11 ++ (vsL12 ++ (vsL13 ++ (vsL15 ++ vsL16)))))⟩]
def l25 : List Cert := g25_0
def g27_0 : List CertN := [⟨7000, [(Pp 5040 0), (.cls 16 0)], vsL10, [7001, 7000, 7004, 7009, 7021], (Pp 7000 0), vsY0⟩]
def g27_1 : List CertN := [⟨7000, [(Pp 5040 0), (.cls 16 1)], vsL10, [7001, 7000, 7004, 7009, 7021], (Pp 7000 0), vsY0⟩]
def g27_2 : List CertN := [⟨7000, [(Pp 5040 0), (.cls 16 2)], vsL10, [7001, 7000, 7047, 7189, 7139], (Pp 7000 0), vsY0⟩]
def g27_3 : List CertN := [⟨7000, [(Pp 5040 0), (.cls 16 3)], vsL10, [7001, 7000, 7051, 7222, 7172], (Pp 7000 0), vsY0⟩]
def g27_4 : List CertN := [⟨7000, [(Pp 5040 0), (.cls 16 4)], vsL10, [7001, 7000, 7045, 7173, 7135], (Pp 7000 0), vsY0⟩]
def g27_5 : List CertN := [⟨7000, [(Pp 5040 0), (.cls 16 5)], vsL10, [7001, 7000, 7049, 7206, 7168], (Pp 7000 0), vsY0⟩]
def g27_6 : List CertN := [⟨7000, [(Pp 5040 0), (.cls 16 6)], vsL10, [7001, 7000, 7055, 7253, 7215], (Pp 7000 0), vsY0⟩]
def g27_7 : List CertN := [⟨7000, [(Pp 5040 0), (.cls 16 7)], vsL10, [7001, 7000, 7059, 7286, 7248], (Pp 7000 0), vsY0⟩]
def g27_8 : List CertN := [⟨7000, [(Pp 5040 0), (.cls 16 8)], vsL10, [7001, 7000, 7132, 7202, 7164], (Pp 7000 0), vsY0⟩]
def g27_9 : List CertN := [⟨7000, [(Pp 5040 0), (.cls 16 9)], vsL10, [7001, 7000, 7165, 7235, 7197], (Pp 7000 0), vsY0⟩]
def g27_10 : List CertN := [⟨7000, [(Pp 5040 0), (.cls 16 10)], vsL10, [7001, 7000, 7212, 7282, 7244], (Pp 7000 0), vsY0⟩]
def g27_11 : List CertN := [⟨7000, [(Pp 5040 0), (.cls 16 11)], vsL10, [7001, 7000, 7245, 7315, 7277], (Pp 7000 0), vsY0⟩]
def g27_12 : List CertN := [⟨7000, [(Pp 5040 0), (.cls 16 12)], vsL10, [7001, 7000, 7196, 7266, 7228], (Pp 7000 0), vsY0⟩]
def g27_13 : List CertN := [⟨7000, [(Pp 5040 0), (.cls 16 13)], vsL10, [7001, 7000, 7229, 7299, 7261], (Pp 7000 0), vsY0⟩]
def g27_14 : List CertN := [⟨7000, [(Pp 5040 0), (.cls 16 14)], vsL10, [7001, 7000, 7276, 7346, 7308], (Pp 7000 0), vsY0⟩]
def g27_15 : List CertN := [⟨7000, [(Pp 5040 0), (.cls 16 15)], vsL10, [7001, 7000, 7309, 7379, 7341], (Pp 7000 0), vsY0⟩]
def l27 : List CertN := g27_0 ++ (g27_1 ++ (g27_2 ++ (g27_3 ++ (g27_4 ++ (g27_5 ++ (g27_6 ++ (g27_7 ++ (g27_8 ++ (g27_9 ++ (g27_10 ++ (g27_11 ++ (g27_12 ++ (g27_13 ++ (g27_14 ++ (g27_15)))))))))))))))
def g28_0 : List Cert := [⟨8000, [.nilslice], [], [], 8001, (Pp 8000 0), []⟩]
def l28 : List Cert := g28_0
def g29_0 : List Cert := [⟨9000, [(Sn 2149 0 2 2), vsX75, (Pp 8000 0), vsX59], vsL3, [], 9007, (.tuple [.nilslice, (Ii 0), (Ii 36)]), []⟩,
 ⟨9000, [(Sn 2149 0 2 2), vsX75, (Pp 8000 0), vsX49], vsL3, [], 9010, (.tuple [.nilslice, (Ii 1), (Ii 35)]), []⟩,
 ⟨9000, [(Sn 2149 0 2 2), vsX75, (Pp 8000 0), vsX58], vsY1, [], 9014, (.tuple [.nilslice, (Ii 1), (Ii 36)]), []⟩,
 ⟨9000, [(Sn 2149 0 2 2), vsX75, (Pp 8000 0), vsX57], vsY1, [], 9017, (.tuple [(Sn 9014 0 1 1), (Ii 2), (Ii 36)]), [(9014, (Ce (Lf (Bu 40)) 1 false))]⟩]
def g29_1 : List Cert := [⟨9000, [(Sn 2149 0 2 2), vsX75, (Pp 8000 0), vsX56], vsY1, [], 9022, (.tuple [(Sn 9014 0 1 1), (Ii 3), (Ii 36)]), [(9014, (Ce (Lf (Bu 40)) 1 false))]⟩,
 ⟨9000, [(Sn 2149 0 2 2), vsX75, (Pp 8000 0), vsX55], vsY2, [], 9039, (.tuple [(Sn 9036 0 2 1), (Ii 4), (Ii 36)]), [(9036, (Ce (Nd (Bu 40) (Lf (Bu 49)) Em) 2 false))]⟩,
 ⟨9000, [(Sn 2149 0 2 2), vsX75, (Pp 8000 0), vsX54], vsY2, [], 9044, (.tuple [(Sn 9036 0 2 1), (Ii 5), (Ii 36)]), [(9036, (Ce (Nd (Bu 40) (Lf (Bu 49)) Em) 2 false))]⟩,
 ⟨9000, [(Sn 2149 0 2 2), vsX75, (Pp 8000 0), vsX53], (vsL5 ++ (vsL4 ++ (vsL16 ++ (vsL7 ++ vsL3)))), [], 9055, (.tuple [(Sn 9036 0 2 1), (Ii 6), (Ii 36)]), [(9036, (Ce (Nd (Bu 40) (Lf (Bu 49)) Em) 2 false))]⟩]
def g29_2 : List Cert := [⟨9000, [(Sn 2149 0 2 2), vsX75, (Pp 8000 0), vsX52], vsY3, [], 9058, (.tuple [(Sn 9036 0 2 1), (Ii 7), (Ii 36)]), [(9036, (Ce (Nd (Bu 40) (Lf (Bu 49)) Em) 2 false))]⟩,
 ⟨9000, [(Sn 2149 0 2 2), vsX75, (Pp 8000 0), vsX27], vsY3, [], 9061, (.tuple [(Sn 9036 0 2 1), (Ii 8), (Ii 35)]), [(9036, (Ce (Nd (Bu 40) (Lf (Bu 49)) Em) 2 false))]⟩,
 ⟨9000, [(Sn 2149 0 2 2), vsX75, (Pp 8000 0), vsX51], vsY3, [], 9065, (.tuple [(Sn 9036 0 2 1), (Ii 8), (Ii 36)]), [(9036, (Ce (Nd (Bu 40) (Lf (Bu 49)) Em) 2 false))]⟩,
 ⟨9000, [(Sn 2149 0 2 2), vsX75, (Pp 8000 0), vsX50], vsY3, [], 9068, (.tuple [(Sn 9065 0 3 1), (Ii 9), (Ii 36)]), [(9065, vsX92)]⟩]
def g29_3 : List Cert := [⟨9000, [(Sn 2149 0 2 2), vsX75, (Pp 8000 0), vsX48], vsY3, [], 9073, (.tuple [(Sn 9065 0 3 1), (Ii 10), (Ii 36)]), [(9065, vsX92)]⟩,
 ⟨9000, [(Sn 2149 0 2 2), vsX75, (Pp 8000 0), vsX47], vsY4, [], 9090, (.tuple [(Sn 9087 0 4 1), (Ii 11), (Ii 36)]), vsL17⟩,
 ⟨9000, [(Sn 2149 0 2 2), vsX75, (Pp 8000 0), vsX46], vsY4, [], 9095, (.tuple [(Sn 9087 0 4 1), (Ii 12), (Ii 36)]), vsL17⟩,
 ⟨9000, [(Sn 2149 0 2 2), vsX75, (Pp 8000 0), vsX45], vsY4, [], 9106, (.tuple [(Sn 9087 0 4 1), (Ii 13), (Ii 36)]), vsL17⟩]
def g29_4 : List Cert := [⟨9000, [(Sn 2149 0 2 2), vsX75, (Pp 8000 0), vsX44], vsY5, [], 9109, (.tuple [(Sn 9087 0 4 1), (Ii 14), (Ii 36)]), vsL17⟩,
 ⟨9000, [(Sn 2149 0 2 2), vsX75, (Pp 8000 0), vsX25], vsY5, [], 9112, (.tuple [(Sn 9087 0 4 1), (Ii 15), (Ii 35)]), vsL17⟩,
 ⟨9000, [(Sn 2149 0 2 2), vsX75, (Pp 8000 0), vsX43], vsY5, [], 9116, (.tuple [(Sn 9087 0 4 1), (Ii 15), (Ii 36)]), vsL17⟩,
 ⟨9000, [(Sn 2149 0 2 2), vsX75, (Pp 8000 0), vsX42], vsY5, [], 9119, (.tuple [(Sn 9116 0 5 1), (Ii 16), (Ii 36)]), vsL18⟩]
def g29_5 : List Cert := [⟨9000, [(Sn 2149 0 2 2), vsX75, (Pp 8000 0), vsX41], vsY5, [], 9124, (.tuple [(Sn 9116 0 5 1), (Ii 17), (Ii 36)]), vsL18⟩,
 ⟨9000, [(Sn 2149 0 2 2), vsX75, (Pp 8000 0), vsX40], vsY6, [], 9141, (.tuple [(Sn 9138 0 6 1), (Ii 18), (Ii 36)]), vsL19⟩,
 ⟨9000, [(Sn 2149 0 2 2), vsX75, (Pp 8000 0), vsX39], vsY6, [], 9146, (.tuple [(Sn 9138 0 6 1), (Ii 19), (Ii 36)]), vsL19⟩,
 ⟨9000, [(Sn 2149 0 2 2), vsX75, (Pp 8000 0), vsX38], vsY6, [], 9160, (.tuple [(Sn 9138 0 6 1), (Ii 20), (Ii 36)]), vsL19⟩]
def g29_6 : List Cert := [⟨9000, [(Sn 2149 0 2 2), vsX75, (Pp 8000 0), vsX37], vsY6, [], 9163, (.tuple [(Sn 9160 0 7 1), (Ii 21), (Ii 36)]), [(9160, vsX23)]⟩,
 ⟨9000, [(Sn 2149 0 2 2), vsX75, (Pp 8000 0), vsX36], vsY6, [], 9164, (.tuple [(Sn 9163 0 8 1), (Ii 22), (Ii 36)]), vsL20⟩,
 ⟨9000, [(Sn 2149 0 2 2), vsX75, (Pp 8000 0), vsX35], vsY6, [], 9167, (.tuple [(Sn 9163 0 8 1), (Ii 23), (Ii 36)]), vsL20⟩,
 ⟨9000, [(Sn 2149 0 2 2), vsX75, (Pp 8000 0), vsX34], vsY6, [], 9174, (.tuple [(Sn 9163 0 8 1), (Ii 24), (Ii 36)]), vsL20⟩]
def g29_7 : List Cert := [⟨9000, [(Sn 2149 0 2 2), vsX75, (Pp 8000 0), vsX33], vsY6, [], 9177, (.tuple [(Sn 9174 0 9 1), (Ii 25), (Ii 36)]), vsL21⟩,
 ⟨9000, [(Sn 2149 0 2 2), vsX75, (Pp 8000 0), vsX32], vsY6, [], 9182, (.tuple [(Sn 9174 0 9 1), (Ii 26), (Ii 36)]), vsL21⟩,
 ⟨9000, [(Sn 2149 0 2 2), vsX75, (Pp 8000 0), vsX31], vsY7, [], 9199, (.tuple [(Sn 9196 0 10 1), (Ii 27), (Ii 36)]), vsL22⟩,
 ⟨9000, [(Sn 2149 0 2 2), vsX75, (Pp 8000 0), vsX30], vsY7, [], 9204, (.tuple [(Sn 9196 0 10 1), (Ii 28), (Ii 36)]), vsL22⟩]
def g29_8 : List Cert := [⟨9000, [(Sn 2149 0 2 2), vsX75, (Pp 8000 0), vsX29], vsY7, [], 9218, (.tuple [(Sn 9196 0 10 1), (Ii 29), (Ii 36)]), vsL22⟩,
 ⟨9000, [(Sn 2149 0 2 2), vsX75, (Pp 8000 0), vsX28], vsY7, [], 9221, (.tuple [(Sn 9218 0 11 1), (Ii 30), (Ii 36)]), [(9218, vsX9)]⟩,
 ⟨9000, [(Sn 2149 0 2 2), vsX75, (Pp 8000 0), vsX24], vsY7, [], 9222, (.tuple [(Sn 9221 0 12 1), (Ii 31), (Ii 0)]), [(9221, vsX7)]⟩]
def l29 : List Cert := g29_0 ++ (g29_1 ++ (g29_2 ++ (g29_3 ++ (g29_4 ++ (g29_5 ++ (g29_6 ++ (g29_7 ++ (g29_8))))))))
def g53_0 : List Cert := [⟨226, [(Sn 181 0 1 2)], [(179, (Ce (Nd (Ii 0) (Nd (Ii 0) (Nd (Ii 0) (Nd (Ii 0) vsX63 vsX96) vsX21) (Nd (.int .u64 (.ofNat 0)) vsX21 (Nd .nilslice (Nd (.int .u64 (.ofNat 0)) vsX81 (Lf (.int .u64 (.ofNat 0)))) vsX78))) (Nd (Ii 0) (Nd (Ii 0) (Nd Se (Nd (Ii 10) (Nd (Ii 0) (Lf (Ii 11)) Em) (Lf (Ii 0))) (Nd Se (Nd Se (Lf Se) Em) (Lf Se))) (Nd .nilslice (Nd (Ii 0) (Nd (Ii 0) (Lf (Ii 2)) Em) (Lf (Ii 0))) vsX78)) (Nd Se vsX21 (Nd .nilslice (Nd (.str [97]) (Nd Se (Lf Se) Em) (Lf Se)) vsX78)))) 80 false)), (181, (Ce (Nd (Ii 1) (Lf (Sn 179 0 5 16)) Em) 2 false))], [], 249, (Sl 226 0 1 1 2), [(226, (Ce (Nd (Sn 248 0 5 20) (Lf (Ii 1)) Em) 2)), (248, (Ce (Nd (Ii 0) (Nd (Ii 0) (Nd (Ii 0) (Nd (Ii 0) (Nd .nilslice (Nd .nilslice (Lf (Ii 0)) (Lf .nilslice)) (Nd (Ii 0) (Lf .nilslice) Em)) (Nd (Ii 0) (Nd .nilslice (Lf .nilslice) Em) (Nd .nilslice (Lf (Ii 0)) Em))) (Nd .nilslice (Nd .nilslice (Nd .nilslice (Lf (Ii 0)) (Lf .nilslice)) (Nd .nilslice (Lf (Ii 0)) Em)) vsX65)) (Nd (.int .u64 (.ofNat 0)) (Nd .nilslice (Nd (Ii 0) (Nd .nilslice (Lf (.int .u64 (.ofNat 0))) (Lf (Ii 0))) (Nd .nilslice (Lf (Ii 0)) Em)) (Nd (.int .u64 (.ofNat 0)) (Nd (Ii 0) (Lf .nilslice) Em) (Nd (Ii 0) (Lf .nilslice) Em))) (Nd .nilslice (Nd (Ii 0) (Nd (Ii 0) (Lf .nilslice) Em) (Nd .nilslice (Lf (.int .u64 (.ofNat 0))) Em)) (Nd .nilslice (Nd (.int .u64 (.ofNat 0)) (Lf (Ii 0)) Em) (Nd (Ii 0) (Lf .nilslice) Em))))) (Nd (Ii 0) (Nd (Ii 0) (Nd Se (Nd (Ii 0) (Nd .nilslice (Lf (Ii 0)) (Lf (Ii 11))) (Nd Se (Lf (Ii 11)) Em)) (Nd (Ii 0) (Nd (Ii 0) (Lf .nilslice) Em) (Nd (Ii 0) (Lf Se) Em))) (Nd .nilslice (Nd (Ii 10) (Nd (Ii 10) (Lf Se) Em) (Nd .nilslice (Lf (Ii 2)) Em)) (Nd Se (Nd (Ii 0) (Lf (Ii 0)) Em) (Nd (Ii 0) (Lf .nilslice) Em)))) (Nd Se (Nd .nilslice (Nd (Ii 0) (Nd .nilslice (Lf Se) (Lf (Ii 0))) (Nd .nilslice (Lf (Ii 0)) Em)) (Nd (.str [97]) (Nd (Ii 0) (Lf .nilslice) Em) (Nd (Ii 0) (Lf .nilslice) Em))) (Nd .nilslice (Nd (Ii 0) (Nd (Ii 0) (Lf .nilslice) Em) (Nd .nilslice (Lf Se) Em)) (Nd .nilslice (Nd Se (Lf (Ii 0)) Em) (Nd (Ii 0) (Lf .nilslice) Em)))))) 100 false))]⟩]
def g53_1 : List Cert := [⟨12006, [(Sl 7001 0 2 2 2)], vsL1, [], 12082, (Sl 12006 0 2 2 2), [(12006, (Ce (Nd (Sn 12016 0 2 20) (Nd (Ii 1) (Lf (Ii 5)) Em) (Lf (Sn 12081 0 16 20))) 4)), (12016, (Ce (Nd (Ii 0) (Nd (Ii 0) (Nd (Ii 0) (Nd (Ii 0) (Nd .nilslice (Lf .nilslice) Em) (Nd (Ii 1) (Lf .nilslice) Em)) (Nd .nilslice (Nd .nilslice (Lf .nilslice) Em) (Lf (Ii 0)))) (Nd (.int .u64 (.ofNat 0)) (Nd .nilslice (Nd (Ii 0) (Lf .nilslice) Em) (Lf (.int .u64 (.ofNat 0)))) vsX85)) (Nd (Ii 0) (Nd (Ii 0) (Nd Se (Nd (Ii 0) (Lf .nilslice) Em) (Lf (Ii 0))) (Nd .nilslice (Nd (Ii 15) (Lf (Ii 15)) Em) (Lf Se))) (Nd Se (Nd .nilslice (Nd (Ii 0) (Lf .nilslice) Em) (Lf Se)) vsX85))) 40 false)), (12081, (Ce (Nd (Ii 0) (Nd (Ii 0) (Nd (Ii 0) (Nd (Ii 0) (Nd .nilslice (Nd .nilslice vsX65 vsX83) (Nd (Ii 0) vsX84 vsX79)) (Nd (Ii 0) vsX19 vsX20)) (Nd .nilslice (Nd .nilslice vsX20 (Nd .nilslice (Nd (Ii 1) (Nd (Ii 0) (Lf .nilslice) Em) (Lf .nilslice)) (Nd .nilslice (Nd .nilslice (Lf (Ii 0)) Em) (Lf (Ii 1))))) (Nd (Ii 0) (Nd (Ii 0) vsX83 vsX80) vsX19))) (Nd (.int .u64 (.ofNat 0)) (Nd .nilslice (Nd (Ii 0) (Nd .nilslice vsX66 (Nd (Ii 0) (Nd (Ii 2) (Lf .nilslice) Em) (Lf (.int .u64 (.ofNat 0))))) (Nd .nilslice (Nd (Ii 1) vsX101 (Lf .nilslice)) vsX71)) (Nd (.int .u64 (.ofNat 0)) (Nd (Ii 0) (Nd .nilslice (Nd (Ii 0) (Lf (.int .u64 (.ofNat 0))) Em) (Lf (Ii 3))) vsX66) vsX15)) (Nd .nilslice (Nd (Ii 0) vsX15 (Nd .nilslice (Nd (.int .u64 (.ofNat 0)) (Nd .nilslice (Lf (Ii 10)) Em) (Lf .nilslice)) (Nd (Ii 0) (Nd (Ii 3) (Lf .nilslice) Em) (Lf (.int .u64 (.ofNat 0)))))) (Nd .nilslice (Nd (.int .u64 (.ofNat 0)) (Nd (Ii 0) (Nd (Ii 0) (Lf .nilslice) Em) (Lf (.int .u64 (.ofNat 0)))) vsX83) (Nd (Ii 0) vsX71 vsX66))))) (Nd (Ii 0) (Nd (Ii 0) (Nd Se (Nd (Ii 0) (Nd .nilslice (Nd (Ii 0) (Nd Se (Lf (Ii 15)) Em) (Lf (Sn 7004 0 2 16))) (Nd (Ii 4) (Nd (Ii 4) (Lf Se) Em) (Lf (Ii 0)))) (Nd Se (Nd (Ii 4) (Nd (Ii 0) (Lf .nilslice) Em) (Lf Se)) (Nd .nilslice (Nd (Ii 4) (Lf (Ii 0)) Em) (Lf (Ii 15))))) (Nd (Ii 0) (Nd (Ii 0) (Nd .nilslice (Nd (Ii 0) (Lf (Ii 0)) Em) (Lf (Ii 13))) (Nd (Ii 2) (Nd Se (Lf (Ii 0)) Em) (Lf .nilslice))) (Nd (Ii 0) (Nd Se (Nd .nilslice (Lf (Ii 0)) Em) (Lf (.int .i64 (.negSucc 3)))) (Nd (Ii 0) (Nd (Ii 4) (Lf .nilslice) Em) (Lf Se))))) (Nd .nilslice (Nd (Ii 10) (Nd (Ii 10) (Nd Se (Nd .nilslice (Lf (Ii 0)) Em) (Lf (.int .i64 (.negSucc 2)))) (Nd (Ii 11) (Nd (Ii 0) (Lf .nilslice) Em) (Lf Se))) (Nd .nilslice (Nd (Ii 0) (Nd Se (Lf (.int .i64 (.negSucc 0))) Em) (Lf (Sn 7004 0 2 16))) (Nd (Ii 11) (Nd (Ii 13) (Lf Se) Em) (Lf (Ii 0))))) (Nd Se (Nd (Ii 0) (Nd (Ii 0) (Nd (Ii 0) (Lf Se) Em) (Lf (Ii 4))) (Nd Se (Nd .nilslice (Lf (Ii 10)) Em) (Lf (Ii 0)))) (Nd (Ii 0) (Nd .nilslice (Nd (Ii 0) (Lf (Ii 0)) Em) (Lf (Ii 0))) (Nd (Ii 0) (Nd Se (Lf (Ii 10)) Em) (Lf .nilslice)))))) (Nd Se (Nd .nilslice (Nd (Ii 0) (Nd .nilslice vsX89 vsX98) (Nd .nilslice vsX91 (Nd .nilslice (Nd (Ii 0) (Lf (.str [41])) Em) (Lf (Ii 3))))) (Nd (.str [40]) (Nd (Ii 0) (Nd .nilslice (Nd (Ii 0) (Lf Se) Em) (Lf (Ii 2))) vsX89) (Nd (Ii 0) vsX82 vsX91))) (Nd .nilslice (Nd (Ii 0) (Nd (Ii 0) vsX82 (Nd (Ii 1) (Nd Se (Lf .nilslice) Em) (Lf .nilslice))) (Nd .nilslice vsX89 (Nd (Ii 0) (Nd (Ii 2) (Lf .nilslice) Em) (Lf Se)))) (Nd .nilslice (Nd Se vsX98 vsX83) (Nd (Ii 0) (Nd .nilslice (Nd (Ii 0) (Lf Se) Em) (Lf (Ii 0))) vsX89)))))) 320 false))]⟩]
def l53 : List Cert := g53_0 ++ (g53_1)
def c118_0 : Cert := ⟨221, [(Pp 209 0)], [(207, (.map [])), (209, (Ce (Nd (Sn 215 0 1 1) (Nd .nilslice (Lf (.map 208)) Em) (Lf (.map 207))) 4)), (215, (Ce (Lf (.int .u64 (.ofNat 5))) 1 false))], [], 226, (Pp 224 0), []⟩
def c118_1 : Cert := ⟨12001, [(Pp 10079 0)], vsL0, [], 12006, (Pp 12004 0), [(12003, vsX2), (12004, (Ce (Nd (Sn 12003 0 16 1) (Nd .nilslice (Lf (.map 10078)) Em) (Lf (.map 12001))) 4))]⟩
def l118 : List Cert := [c118_0, c118_1]
end Go.Proofs.YtnjonnilpfenfaaGreatDoor.VmSteps
