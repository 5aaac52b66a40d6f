/- Certificates: what was run once. -/
import Derived.Test.YtnjonnilpfenfaaGreatDoorFc
open Go.Ab
set_option maxRecDepth 100000
namespace Go.Proofs.YtnjonnilpfenfaaGreatDoor.OptDead
def odS0 : AV := .str [97,123,123,105,102,32,111,114,32,102,97,108,115,101,32,40,108,116,32,49,32,50,41,125,125,98,123,123,105,102,32,102,97,108,115,101,125,125,123,123,102,125,125,123,123,101,110,100,125,125,123,123,101,108,115,101,125,125,99,123,123,105,102,32,116,114,117,101,125,125,100,123,123,101,108,115,101,125,125,123,123,102,125,125,123,123,101,110,100,125,125,123,123,101,110,100,125,125,123,123,119,105,116,104,32,111,114,32,102,97,108,115,101,32,40,108,116,32,49,32,50,41,125,125,123,123,46,125,125,123,123,101,108,115,101,125,125,101,123,123,101,110,100,125,125,123,123,102,125,125]
def odS1 : AV := .str [97,123,123,105,102,32,97,110,100,32,116,114,117,101,32,102,97,108,115,101,125,125,98,123,123,105,102,32,102,97,108,115,101,125,125,123,123,102,125,125,123,123,101,110,100,125,125,123,123,101,108,115,101,125,125,99,123,123,105,102,32,116,114,117,101,125,125,100,123,123,101,108,115,101,125,125,123,123,102,125,125,123,123,101,110,100,125,125,123,123,101,110,100,125,125,123,123,119,105,116,104,32,97,110,100,32,116,114,117,101,32,102,97,108,115,101,125,125,123,123,46,125,125,123,123,101,108,115,101,125,125,101,123,123,101,110,100,125,125,123,123,102,125,125]
def odS2 : AV := .str [97,123,123,105,102,32,97,110,100,32,102,97,108,115,101,32,40,102,41,125,125,98,123,123,105,102,32,102,97,108,115,101,125,125,123,123,102,125,125,123,123,101,110,100,125,125,123,123,101,108,115,101,125,125,99,123,123,105,102,32,116,114,117,101,125,125,100,123,123,101,108,115,101,125,125,123,123,102,125,125,123,123,101,110,100,125,125,123,123,101,110,100,125,125,123,123,119,105,116,104,32,97,110,100,32,102,97,108,115,101,32,40,102,41,125,125,123,123,46,125,125,123,123,101,108,115,101,125,125,101,123,123,101,110,100,125,125,123,123,102,125,125]
def odS3 : AV := .str [97,123,123,105,102,32,97,110,100,32,40,102,41,32,102,97,108,115,101,125,125,98,123,123,105,102,32,102,97,108,115,101,125,125,123,123,102,125,125,123,123,101,110,100,125,125,123,123,101,108,115,101,125,125,99,123,123,105,102,32,116,114,117,101,125,125,100,123,123,101,108,115,101,125,125,123,123,102,125,125,123,123,101,110,100,125,125,123,123,101,110,100,125,125,123,123,119,105,116,104,32,97,110,100,32,40,102,41,32,102,97,108,115,101,125,125,123,123,46,125,125,123,123,101,108,115,101,125,125,101,123,123,101,110,100,125,125,123,123,102,125,125]
def odS4 : AV := .str [97,123,123,105,102,32,111,114,32,116,114,117,101,32,40,102,41,125,125,98,123,123,105,102,32,102,97,108,115,101,125,125,123,123,102,125,125,123,123,101,110,100,125,125,123,123,101,108,115,101,125,125,99,123,123,105,102,32,116,114,117,101,125,125,100,123,123,101,108,115,101,125,125,123,123,102,125,125,123,123,101,110,100,125,125,123,123,101,110,100,125,125,123,123,119,105,116,104,32,111,114,32,116,114,117,101,32,40,102,41,125,125,123,123,46,125,125,123,123,101,108,115,101,125,125,101,123,123,101,110,100,125,125,123,123,102,125,125]
def odS5 : AV := .str [97,123,123,105,102,32,101,113,32,40,102,41,32,40,102,41,125,125,98,123,123,105,102,32,102,97,108,115,101,125,125,123,123,102,125,125,123,123,101,110,100,125,125,123,123,101,108,115,101,125,125,99,123,123,105,102,32,116,114,117,101,125,125,100,123,123,101,108,115,101,125,125,123,123,102,125,125,123,123,101,110,100,125,125,123,123,101,110,100,125,125,123,123,119,105,116,104,32,101,113,32,40,102,41,32,40,102,41,125,125,123,123,46,125,125,123,123,101,108,115,101,125,125,101,123,123,101,110,100,125,125,123,123,102,125,125]
def odS6 : AV := .str [97,123,123,105,102,32,110,111,116,32,116,114,117,101,125,125,98,123,123,105,102,32,102,97,108,115,101,125,125,123,123,102,125,125,123,123,101,110,100,125,125,123,123,101,108,115,101,125,125,99,123,123,105,102,32,116,114,117,101,125,125,100,123,123,101,108,115,101,125,125,123,123,102,125,125,123,123,101,110,100,125,125,123,123,101,110,100,125,125,123,123,119,105,116,104,32,110,111,116,32,116,114,117,101,125,125,123,123,46,125,125,123,123,101,108,115,101,125,125,101,123,123,101,110,100,125,125,123,123,102,125,125]
def odS7 : AV := .str [97,123,123,105,102,32,110,111,116,32,40,102,41,125,125,98,123,123,105,102,32,102,97,108,115,101,125,125,123,123,102,125,125,123,123,101,110,100,125,125,123,123,101,108,115,101,125,125,99,123,123,105,102,32,116,114,117,101,125,125,100,123,123,101,108,115,101,125,125,123,123,102,125,125,123,123,101,110,100,125,125,123,123,101,110,100,125,125,123,123,119,105,116,104,32,110,111,116,32,40,102,41,125,125,123,123,46,125,125,123,123,101,108,115,101,125,125,101,123,123,101,110,100,125,125,123,123,102,125,125]
def odS8 : AV := .str [97,123,123,105,102,32,101,113,32,49,32,49,125,125,98,123,123,105,102,32,102,97,108,115,101,125,125,123,123,102,125,125,123,123,101,110,100,125,125,123,123,101,108,115,101,125,125,99,123,123,105,102,32,116,114,117,101,125,125,100,123,123,101,108,115,101,125,125,123,123,102,125,125,123,123,101,110,100,125,125,123,123,101,110,100,125,125,123,123,119,105,116,104,32,101,113,32,49,32,49,125,125,123,123,46,125,125,123,123,101,108,115,101,125,125,101,123,123,101,110,100,125,125,123,123,102,125,125]
def odS9 : AV := .str [97,123,123,105,102,32,101,113,32,46,32,46,125,125,98,123,123,105,102,32,102,97,108,115,101,125,125,123,123,102,125,125,123,123,101,110,100,125,125,123,123,101,108,115,101,125,125,99,123,123,105,102,32,116,114,117,101,125,125,100,123,123,101,108,115,101,125,125,123,123,102,125,125,123,123,101,110,100,125,125,123,123,101,110,100,125,125,123,123,119,105,116,104,32,101,113,32,46,32,46,125,125,123,123,46,125,125,123,123,101,108,115,101,125,125,101,123,123,101,110,100,125,125,123,123,102,125,125]
def odS10 : AV := .str [97,123,123,105,102,32,102,97,108,115,101,125,125,98,123,123,105,102,32,102,97,108,115,101,125,125,123,123,102,125,125,123,123,101,110,100,125,125,123,123,101,108,115,101,125,125,99,123,123,105,102,32,116,114,117,101,125,125,100,123,123,101,108,115,101,125,125,123,123,102,125,125,123,123,101,110,100,125,125,123,123,101,110,100,125,125,123,123,119,105,116,104,32,102,97,108,115,101,125,125,123,123,46,125,125,123,123,101,108,115,101,125,125,101,123,123,101,110,100,125,125,123,123,102,125,125]
def odS11 : AV := .str [97,123,123,105,102,32,110,111,116,32,46,125,125,98,123,123,105,102,32,102,97,108,115,101,125,125,123,123,102,125,125,123,123,101,110,100,125,125,123,123,101,108,115,101,125,125,99,123,123,105,102,32,116,114,117,101,125,125,100,123,123,101,108,115,101,125,125,123,123,102,125,125,123,123,101,110,100,125,125,123,123,101,110,100,125,125,123,123,119,105,116,104,32,110,111,116,32,46,125,125,123,123,46,125,125,123,123,101,108,115,101,125,125,101,123,123,101,110,100,125,125,123,123,102,125,125]
def odS12 : AV := .str [97,123,123,105,102,32,116,114,117,101,125,125,98,123,123,105,102,32,102,97,108,115,101,125,125,123,123,102,125,125,123,123,101,110,100,125,125,123,123,101,108,115,101,125,125,99,123,123,105,102,32,116,114,117,101,125,125,100,123,123,101,108,115,101,125,125,123,123,102,125,125,123,123,101,110,100,125,125,123,123,101,110,100,125,125,123,123,119,105,116,104,32,116,114,117,101,125,125,123,123,46,125,125,123,123,101,108,115,101,125,125,101,123,123,101,110,100,125,125,123,123,102,125,125]
def odS13 : AV := .str [97,123,123,105,102,32,46,125,125,98,123,123,105,102,32,102,97,108,115,101,125,125,123,123,102,125,125,123,123,101,110,100,125,125,123,123,101,108,115,101,125,125,99,123,123,105,102,32,116,114,117,101,125,125,100,123,123,101,108,115,101,125,125,123,123,102,125,125,123,123,101,110,100,125,125,123,123,101,110,100,125,125,123,123,119,105,116,104,32,46,125,125,123,123,46,125,125,123,123,101,108,115,101,125,125,101,123,123,101,110,100,125,125,123,123,102,125,125]
def odX549 : PT AV := Nd .nilslice (Lf .nilslice) (Lf .nilslice)
def odX548 : PT AV := Nd Se (Nd (.str [100]) (Lf Se) Em) (Lf Se)
def odX547 : PT AV := Nd Se (Nd Se (Lf (.str [102])) Em) (Lf Se)
def odX546 : Blk := Ce (Nd (Ii 6) (Lf (Sn 10002 0 14 16)) Em) 2
def odX545 : Blk := Ce (Nd (Ii 8) (Lf (Sn 10002 0 16 16)) Em) 2
def odX544 : Blk := Ce (Nd (Ii 8) (Lf (Sn 10002 0 20 16)) Em) 2
def odX543 : Blk := Ce (Nd (Ii 8) (Lf (Sn 10002 0 22 16)) Em) 2
def odX542 : PT AV := Nd Se (Nd Se (Lf Se) Em) (Nd Se (Lf Se) Em)
def odX541 : Blk := Ce (Nd (Ii 10) (Lf (Sn 10002 0 18 16)) Em) 2
def odX540 : Blk := Ce (Nd (Ii 10) (Lf (Sn 10002 0 24 16)) Em) 2
def odX539 : Blk := Ce (Nd (Ii 12) (Lf (Sn 10002 0 20 16)) Em) 2
def odX538 : Blk := Ce (Nd (Ii 12) (Lf (Sn 10002 0 24 16)) Em) 2
def odX537 : Blk := Ce (Nd (Ii 12) (Lf (Sn 10002 0 26 16)) Em) 2
def odX536 : Blk := Ce (Nd (Ii 16) (Lf (Sn 10002 0 26 16)) Em) 2
def odX535 : Blk := Ce (Nd (Ii 16) (Lf (Sn 10002 0 30 16)) Em) 2
def odX534 : PT AV := Nd (Ii 22) (Nd Se (Lf Ff) Em) (Lf .nilslice)
def odX533 : PT AV := Nd (Ii 25) (Nd Se (Lf Ff) Em) (Lf .nilslice)
def odX532 : PT AV := Nd (Ii 26) (Nd Se (Lf Ff) Em) (Lf .nilslice)
def odX531 : PT AV := Nd (Ii 27) (Nd Se (Lf Ff) Em) (Lf .nilslice)
def odX530 : PT AV := Nd (Ii 28) (Nd Se (Lf Ff) Em) (Lf .nilslice)
def odX529 : PT AV := Nd (Ii 29) (Nd Se (Lf Ff) Em) (Lf .nilslice)
def odX528 : PT AV := Nd (Ii 31) (Nd Se (Lf Ff) Em) (Lf .nilslice)
def odX527 : PT AV := Nd (Ii 32) (Nd Se (Lf Ff) Em) (Lf .nilslice)
def odX526 : PT AV := Nd (Ii 34) (Nd Se (Lf Ff) Em) (Lf .nilslice)
def odX525 : PT AV := Nd (Ii 35) (Nd Se (Lf Ff) Em) (Lf .nilslice)
def odX524 : PT AV := Nd (Ii 38) (Nd Se (Lf Ff) Em) (Lf .nilslice)
def odX523 : PT AV := Nd (Ii 63) (Nd Se (Lf Ff) Em) (Lf .nilslice)
def odX522 : PT AV := Nd (Ii 66) (Nd Se (Lf Ff) Em) (Lf .nilslice)
def odX521 : PT AV := Nd (Ii 67) (Nd Se (Lf Ff) Em) (Lf .nilslice)
def odX520 : PT AV := Nd (Ii 68) (Nd Se (Lf Ff) Em) (Lf .nilslice)
def odX519 : PT AV := Nd (Ii 69) (Nd Se (Lf Ff) Em) (Lf .nilslice)
def odX518 : PT AV := Nd (Ii 70) (Nd Se (Lf Ff) Em) (Lf .nilslice)
def odX517 : PT AV := Nd (Ii 72) (Nd Se (Lf Ff) Em) (Lf .nilslice)
def odX516 : PT AV := Nd (Ii 73) (Nd Se (Lf Ff) Em) (Lf .nilslice)
def odX515 : PT AV := Nd (Ii 75) (Nd Se (Lf Ff) Em) (Lf .nilslice)
def odX514 : PT AV := Nd (Ii 76) (Nd Se (Lf Ff) Em) (Lf .nilslice)
def odX513 : PT AV := Nd (Ii 79) (Nd Se (Lf Ff) Em) (Lf .nilslice)
def odX512 : PT AV := Nd (Ii 92) (Nd Se (Lf Ff) Em) (Lf .nilslice)
def odX511 : PT AV := Nd (Ii 98) (Nd Se (Lf Ff) Em) (Lf .nilslice)
def odX510 : PT AV := Nd (Ii 100) (Nd Se (Lf Ff) Em) (Lf .nilslice)
def odX509 : PT AV := Nd (Ii 102) (Nd Se (Lf Ff) Em) (Lf .nilslice)
def odX508 : PT AV := Nd (Ii 104) (Nd Se (Lf Ff) Em) (Lf .nilslice)
def odX507 : PT AV := Nd (Ii 106) (Nd Se (Lf Ff) Em) (Lf .nilslice)
def odX506 : PT AV := Nd (Ii 110) (Nd Se (Lf Ff) Em) (Lf .nilslice)
def odX505 : PT AV := Nd (Ii 112) (Nd Se (Lf Ff) Em) (Lf .nilslice)
def odX504 : PT AV := Nd (Ii 116) (Nd Se (Lf Ff) Em) (Lf .nilslice)
def odX503 : PT AV := Nd (Ii 118) (Nd Se (Lf Ff) Em) (Lf .nilslice)
def odX502 : PT AV := Nd (Ii 124) (Nd Se (Lf Ff) Em) (Lf .nilslice)
def odX501 : PT AV := Nd Se (Nd Ff (Lf (Sn 2180 0 1 9)) Em) (Lf Se)
def odX500 : PT AV := Nd Se (Nd Ff (Lf (Sn 2188 0 1 9)) Em) (Lf Se)
def odX499 : PT AV := Nd Se (Nd Ff (Lf (Sn 2196 0 1 9)) Em) (Lf Se)
def odX498 : PT AV := Nd Se (Nd Ff (Lf (Sn 2209 0 1 9)) Em) (Lf Se)
def odX497 : PT AV := Nd Se (Nd Ff (Lf (Sn 3119 0 1 9)) Em) (Lf Se)
def odX496 : PT AV := Nd Se (Nd Ff (Lf (Sn 3120 0 1 9)) Em) (Lf Se)
def odX495 : PT AV := Nd Se (Nd Ff (Lf (Sn 3121 0 1 9)) Em) (Lf Se)
def odX494 : PT AV := Nd Se (Nd Ff (Lf (Sn 3127 0 1 9)) Em) (Lf Se)
def odX493 : PT AV := Nd .nilslice (Nd .nilslice (Lf Ff) Em) (Lf Se)
def odX492 : PT AV := Nd .nilslice (Nd .nilslice (Lf Tt) Em) (Lf Se)
def odX491 : PT AV := Nd Ff (Nd .nilslice (Lf Se) Em) (Lf .nilslice)
def odX490 : PT AV := Nd (.str [110,111,116]) (Lf (Ii 5)) (Lf (Ii 0))
def odX489 : PT AV := Nd (Ii 1) (Nd (Ii 6) (Lf Ff) Em) (Lf .nilslice)
def odX488 : PT AV := Nd .nilslice (Nd Se (Lf (Ii 0)) Em) (Lf (Ii 4))
def odX487 : PT AV := Nd .nilslice (Nd Se (Lf (Ii 0)) Em) (Lf (Ii 5))
def odX486 : Blk := Ce (Nd (Pp 3154 0) (Lf (Sl 10001 0 1 1 2)) Em) 2
def odX485 : Blk := Ce (Nd (Pp 3156 0) (Lf (Sl 10001 0 1 1 2)) Em) 2
def odX484 : Blk := Ce (Nd (Pp 3158 0) (Lf (Sl 10001 0 1 1 2)) Em) 2
def odX483 : Blk := Ce (Nd (Pp 3174 0) (Lf (Sl 10001 0 1 1 2)) Em) 2
def odX482 : Blk := Ce (Nd (Pp 3182 0) (Lf (Sl 10001 0 1 1 2)) Em) 2
def odX481 : PT AV := Nd (Ii 0) (Nd (Ii 0) (Lf (Ii 0)) Em) (Lf (Ii 0))
def odX480 : PT AV := Nd (Ii 0) (Nd (Ii 0) (Lf (Ii 0)) Em) (Lf (Ii 1))
def odX479 : PT AV := Nd (Ii 0) (Nd (Ii 0) (Lf (Ii 0)) Em) (Lf (Ii 8))
def odX478 : PT AV := Nd (Ii 0) (Nd (Ii 0) (Lf (Ii 1)) Em) (Lf (Ii 0))
def odX477 : PT AV := Nd (Ii 0) (Nd (Ii 0) (Lf (Ii 1)) Em) (Lf (Ii 1))
def odX476 : PT AV := Nd (Ii 0) (Nd (Ii 0) (Lf (Ii 7)) Em) (Lf (Ii 0))
def odX475 : PT AV := Nd (Ii 0) (Nd (Ii 1) (Lf (Ii 0)) Em) (Lf (Ii 0))
def odX474 : PT AV := Nd (Ii 1) (Nd (Ii 0) (Lf (Ii 0)) Em) (Lf (Ii 0))
def odX473 : PT AV := Nd (Ii 1) (Nd (Ii 0) (Lf (Ii 0)) Em) (Lf (Ii 1))
def odX472 : PT AV := Nd (Ii 1) (Nd (Ii 0) (Lf (Ii 0)) Em) (Lf (Ii 8))
def odX471 : PT AV := Nd (Ii 1) (Nd (Ii 0) (Lf (Ii 9)) Em) (Lf (Ii 0))
def odX470 : PT AV := Nd (Ii 1) (Nd (Ii 1) (Lf (Ii 0)) Em) (Lf (Ii 0))
def odX469 : PT AV := Nd (Ii 2) (Nd (Ii 0) (Lf (Ii 0)) Em) (Lf (Ii 0))
def odX468 : PT AV := Nd Se (Nd (Ii 82) (Lf .nilslice) Em) (Lf (Ii 2))
def odX467 : PT AV := Nd Se (Nd (Ii 85) (Lf .nilslice) Em) (Lf (Ii 2))
def odX466 : PT AV := Nd Se (Nd (Ii 86) (Lf .nilslice) Em) (Lf (Ii 2))
def odX465 : PT AV := Nd Se (Nd (Ii 87) (Lf .nilslice) Em) (Lf (Ii 2))
def odX464 : PT AV := Nd Se (Nd (Ii 88) (Lf .nilslice) Em) (Lf (Ii 2))
def odX463 : PT AV := Nd Se (Nd (Ii 89) (Lf .nilslice) Em) (Lf (Ii 2))
def odX462 : PT AV := Nd Se (Nd (Ii 91) (Lf .nilslice) Em) (Lf (Ii 2))
def odX461 : PT AV := Nd Se (Nd (Ii 92) (Lf .nilslice) Em) (Lf (Ii 2))
def odX460 : PT AV := Nd Se (Nd (Ii 94) (Lf .nilslice) Em) (Lf (Ii 2))
def odX459 : PT AV := Nd Se (Nd (Ii 95) (Lf .nilslice) Em) (Lf (Ii 2))
def odX458 : PT AV := Nd Se (Nd (Ii 98) (Lf .nilslice) Em) (Lf (Ii 2))
def odX457 : PT AV := Nd Se (Nd Se (Lf Se) (Lf Se)) (Nd Se (Lf Se) Em)
def odX456 : PT AV := Nd (.str [97,110,100]) (Nd Se (Lf Se) Em) (Lf Se)
def odX455 : PT AV := Nd (Ii 0) (Nd (Ii 10) (Lf (Ii 0)) Em) (Lf (Ii 0))
def odX454 : PT AV := Nd (Ii 2) (Nd (Ii 0) (Lf (Ii 0)) Em) (Lf (Ii 10))
def odX453 : PT AV := Nd (Sn 10003 0 2 1) (Lf .nilslice) (Lf .nilslice)
def odX452 : PT AV := Nd Se (Nd Se (Lf Se) Em) (Lf (.str [97,110,100]))
def odX451 : PT AV := Nd (Ii 5) (Nd .nilslice (Lf .nilslice) Em) (Lf Tt)
def odX450 : PT AV := Nd (Sn 10003 0 6 16) (Lf .nilslice) (Lf .nilslice)
def odX449 : PT AV := Nd (Sn 10005 0 6 16) (Lf .nilslice) (Lf .nilslice)
def odX448 : PT AV := Nd (Sn 10006 0 6 16) (Lf .nilslice) (Lf .nilslice)
def odX447 : PT AV := Nd (Sn 10008 0 6 16) (Lf .nilslice) (Lf .nilslice)
def odX446 : AV := .agg [(Ii 1), Ff, (Ii 0), Se, .nilslice, .nilslice]
def odX445 : AV := .agg [(Ii 1), Tt, (Ii 0), Se, .nilslice, .nilslice]
def odX444 : AV := .agg [(Ii 5000), (Ii 12), (.int .i64 (.negSucc 0))]
def odX443 : PT AV := Nd (.str [99]) (Nd Se (Lf Se) Em) (Nd Se (Lf Se) Em)
def odX442 : PT AV := Nd Ff (Nd .nilslice (Lf Se) Em) (Lf (Sn 3088 0 1 1))
def odX441 : PT AV := Nd Se (Nd Se (Lf Se) (Lf Se)) (Nd Se (Lf Se) (Lf Se))
def odX440 : PT AV := Nd Se (Nd Se (Lf Se) Em) (Nd (.str [102]) (Lf Se) Em)
def odX439 : PT AV := Nd Se (Nd Se (Lf Se) Em) (Nd Se (Lf (.str [102])) Em)
def odX438 : PT AV := Nd (.int .u64 (.ofNat 0)) (Lf (.int .u64 (.ofNat 0))) Em
def odX437 : PT AV := Nd (.int .u64 (.ofNat 0)) (Lf (.int .u64 (.ofNat 1))) Em
def odX436 : PT AV := Nd (.int .u64 (.ofNat 1)) (Lf (.int .u64 (.ofNat 0))) Em
def odX435 : PT AV := Nd Se (Nd (.str [98]) (Lf Se) (Lf Se)) (Nd Se (Lf Se) Em)
def odX434 : PT AV := Nd Se (Nd Se (Lf Se) Em) (Lf (.str [102,97,108,115,101]))
def odX433 : PT AV := Nd Se (Nd Se (Lf Se) (Lf (.str [102]))) (Nd Se (Lf Se) Em)
def odX432 : PT AV := Nd .nilslice (Nd Tt (Lf .nilslice) Em) (Lf (Sn 2253 0 1 9))
def odX431 : PT AV := Nd .nilslice (Nd Tt (Lf .nilslice) Em) (Lf (Sn 2269 0 1 9))
def odX430 : PT AV := Nd .nilslice (Nd Tt (Lf .nilslice) Em) (Lf (Sn 2285 0 1 9))
def odX429 : PT AV := Nd .nilslice (Nd Tt (Lf .nilslice) Em) (Lf (Sn 2311 0 1 9))
def odX428 : PT AV := Nd .nilslice (Nd Tt (Lf .nilslice) Em) (Lf (Sn 3144 0 1 9))
def odX427 : PT AV := Nd .nilslice (Nd Tt (Lf .nilslice) Em) (Lf (Sn 3146 0 1 9))
def odX426 : PT AV := Nd .nilslice (Nd Tt (Lf .nilslice) Em) (Lf (Sn 3148 0 1 9))
def odX425 : PT AV := Nd .nilslice (Nd Tt (Lf .nilslice) Em) (Lf (Sn 3160 0 1 9))
def odX424 : PT AV := Nd Se (Nd (Sn 3100 0 1 1) (Lf .nilslice) Em) (Lf .nilslice)
def odX423 : PT AV := Nd Se (Nd (Sn 3101 0 1 1) (Lf .nilslice) Em) (Lf .nilslice)
def odX422 : PT AV := Nd Se (Nd (Sn 3102 0 1 1) (Lf .nilslice) Em) (Lf .nilslice)
def odX421 : PT AV := Nd Se (Nd (Sn 3108 0 1 1) (Lf .nilslice) Em) (Lf .nilslice)
def odX420 : PT AV := Nd Se (Nd (Sn 3122 0 1 1) (Lf .nilslice) Em) (Lf .nilslice)
def odX419 : PT AV := Nd Se (Nd (Sn 3123 0 1 1) (Lf .nilslice) Em) (Lf .nilslice)
def odX418 : PT AV := Nd Se (Nd (Sn 3124 0 1 1) (Lf .nilslice) Em) (Lf .nilslice)
def odX417 : PT AV := Nd Se (Nd (Sn 3130 0 1 1) (Lf .nilslice) Em) (Lf .nilslice)
def odX416 : PT AV := Nd Se (Nd (Sn 3138 0 1 1) (Lf .nilslice) Em) (Lf .nilslice)
def odX415 : PT AV := Nd Se (Nd (Sn 3140 0 1 1) (Lf .nilslice) Em) (Lf .nilslice)
def odX414 : PT AV := Nd Se (Nd (Sn 3142 0 1 1) (Lf .nilslice) Em) (Lf .nilslice)
def odX413 : PT AV := Nd Se (Nd (Sn 3154 0 1 1) (Lf .nilslice) Em) (Lf .nilslice)
def odX412 : PT AV := Nd .nilslice (Nd .nilslice (Lf .nilslice) Em) (Lf .nilslice)
def odX411 : PT AV := Nd (Ii 0) (Nd Se (Lf .nilslice) Em) (Nd Ff (Lf .nilslice) Em)
def odX410 : PT AV := Nd Se (Nd (Sl 2102 0 1 1 1) (Lf .nilslice) Em) (Lf .nilslice)
def odX409 : PT AV := Nd Se (Nd (Sl 2110 0 1 1 1) (Lf .nilslice) Em) (Lf .nilslice)
def odX408 : PT AV := Nd Se (Nd (Sl 2118 0 1 1 1) (Lf .nilslice) Em) (Lf .nilslice)
def odX407 : PT AV := Nd Se (Nd (Sl 2131 0 1 1 1) (Lf .nilslice) Em) (Lf .nilslice)
def odX406 : PT AV := Nd Se (Nd (Sl 2176 0 1 1 1) (Lf .nilslice) Em) (Lf .nilslice)
def odX405 : PT AV := Nd Se (Nd (Sl 2184 0 1 1 1) (Lf .nilslice) Em) (Lf .nilslice)
def odX404 : PT AV := Nd Se (Nd (Sl 2192 0 1 1 1) (Lf .nilslice) Em) (Lf .nilslice)
def odX403 : PT AV := Nd Se (Nd (Sl 2205 0 1 1 1) (Lf .nilslice) Em) (Lf .nilslice)
def odX402 : PT AV := Nd Se (Nd (Sl 2236 0 1 1 1) (Lf .nilslice) Em) (Lf .nilslice)
def odX401 : PT AV := Nd Se (Nd (Sl 2252 0 1 1 1) (Lf .nilslice) Em) (Lf .nilslice)
def odX400 : PT AV := Nd Se (Nd (Sl 2268 0 1 1 1) (Lf .nilslice) Em) (Lf .nilslice)
def odX399 : PT AV := Nd Se (Nd (Sl 2294 0 1 1 1) (Lf .nilslice) Em) (Lf .nilslice)
def odX398 : PT AV := Nd Se (Nd .nilslice (Lf (Pp 3032 0)) Em) (Lf (Sn 3072 0 1 6))
def odX397 : PT AV := Nd (.str [100]) (Nd .nilslice (Lf .nilslice) Em) (Lf .nilslice)
def odX396 : PT AV := Nd (.str [101]) (Nd .nilslice (Lf .nilslice) Em) (Lf .nilslice)
def odX395 : PT AV := Nd (.str [102]) (Nd Se (Lf Se) Em) (Nd (.str [102]) (Lf Se) Em)
def odX394 : PT AV := Nd (Ii 0) (Nd (Ii 0) (Lf (Ii 0)) Em) (Nd (Ii 0) (Lf (Ii 0)) Em)
def odX393 : PT AV := Nd (Ii 0) (Nd (Ii 0) (Lf (Ii 0)) Em) (Nd (Ii 0) (Lf (Ii 1)) Em)
def odX392 : PT AV := Nd (Ii 0) (Nd (Ii 0) (Lf (Ii 0)) Em) (Nd (Ii 0) (Lf (Ii 9)) Em)
def odX391 : PT AV := Nd (Ii 0) (Nd (Ii 0) (Lf (Ii 0)) Em) (Nd (Ii 1) (Lf (Ii 1)) Em)
def odX390 : PT AV := Nd (Ii 0) (Nd (Ii 0) (Lf (Ii 1)) Em) (Nd (Ii 0) (Lf (Ii 0)) Em)
def odX389 : PT AV := Nd (Ii 0) (Nd (Ii 0) (Lf (Ii 1)) Em) (Nd (Ii 0) (Lf (Ii 1)) Em)
def odX388 : PT AV := Nd (Ii 0) (Nd (Ii 0) (Lf (Ii 1)) Em) (Nd (Ii 1) (Lf (Ii 1)) Em)
def odX387 : PT AV := Nd (Ii 0) (Nd (Ii 1) (Lf (Ii 0)) Em) (Nd (Ii 0) (Lf (Ii 0)) Em)
def odX386 : PT AV := Nd (Ii 0) (Nd (Ii 1) (Lf (Ii 0)) Em) (Nd (Ii 0) (Lf (Ii 9)) Em)
def odX385 : PT AV := Nd (Ii 0) (Nd (Ii 3) (Lf (Ii 0)) Em) (Nd (Ii 0) (Lf (Ii 0)) Em)
def odX384 : PT AV := Nd (Ii 1) (Nd (Ii 0) (Lf (Ii 0)) Em) (Nd (Ii 0) (Lf (Ii 0)) Em)
def odX383 : PT AV := Nd (Ii 1) (Nd (Ii 0) (Lf (Ii 0)) Em) (Nd (Ii 1) (Lf (Ii 0)) Em)
def odX382 : PT AV := Nd (Ii 1) (Nd (Ii 0) (Lf (Ii 1)) Em) (Nd (Ii 0) (Lf (Ii 0)) Em)
def odX381 : PT AV := Nd (Ii 2) (Nd (Ii 0) (Lf (Ii 0)) Em) (Nd (Ii 0) (Lf (Ii 0)) Em)
def odX380 : PT AV := Nd (Ii 2) (Nd (Ii 0) (Lf (Ii 0)) Em) (Nd (Ii 2) (Lf (Ii 0)) Em)
def odX379 : PT AV := Nd (Ii 2) (Nd (Ii 0) (Lf (Ii 1)) Em) (Nd (Ii 0) (Lf (Ii 0)) Em)
def odX378 : PT AV := Nd .nilslice (Nd (Ii 5) (Lf .nilslice) Em) (Lf (Sn 3091 0 1 1))
def odX377 : PT AV := Nd .nilslice (Nd (Ii 5) (Lf .nilslice) Em) (Lf (Sn 3092 0 1 1))
def odX376 : PT AV := Nd .nilslice (Nd (Ii 5) (Lf .nilslice) Em) (Lf (Sn 3093 0 1 1))
def odX375 : PT AV := Nd .nilslice (Nd (Ii 5) (Lf .nilslice) Em) (Lf (Sn 3099 0 1 1))
def odX374 : PT AV := Nd .nilslice (Nd (Ii 5) (Lf .nilslice) Em) (Lf (Sn 3110 0 1 1))
def odX373 : PT AV := Nd .nilslice (Nd (Ii 5) (Lf .nilslice) Em) (Lf (Sn 3111 0 1 1))
def odX372 : PT AV := Nd .nilslice (Nd (Ii 5) (Lf .nilslice) Em) (Lf (Sn 3112 0 1 1))
def odX371 : PT AV := Nd .nilslice (Nd (Ii 5) (Lf .nilslice) Em) (Lf (Sn 3118 0 1 1))
def odX370 : PT AV := Nd Se (Nd Se (Lf Se) (Lf Se)) (Nd Se (Lf Se) (Lf (.str [102])))
def odX369 : PT AV := Nd (Ii 0) (Nd (Ii 0) (Lf (Ii 0)) Em) (Nd (Ii 0) (Lf (Ii 11)) Em)
def odX368 : PT AV := Nd Se (Nd Se (Nd Se (Lf Se) Em) (Lf Se)) (Nd Se (Lf Se) (Lf Se))
def odX367 : PT AV := Nd (.str [101,113]) (Nd (Ii 5) (Lf Se) Em) (Nd (Ii 0) (Lf Ff) Em)
def odX366 : PT AV := Nd (Ii 0) (Nd (Ii 0) (Lf (Ii 10)) Em) (Nd (Ii 0) (Lf (Ii 11)) Em)
def odX365 : PT AV := Nd .nilslice (Nd (Ii 5) (Lf .nilslice) Em) (Lf (Sl 2086 0 1 1 1))
def odX364 : PT AV := Nd .nilslice (Nd (Ii 5) (Lf .nilslice) Em) (Lf (Sl 2094 0 1 1 1))
def odX363 : PT AV := Nd .nilslice (Nd (Ii 5) (Lf .nilslice) Em) (Lf (Sl 2102 0 1 1 1))
def odX362 : PT AV := Nd .nilslice (Nd (Ii 5) (Lf .nilslice) Em) (Lf (Sl 2115 0 1 1 1))
def odX361 : PT AV := Nd .nilslice (Nd (Ii 5) (Lf .nilslice) Em) (Lf (Sl 2147 0 1 1 1))
def odX360 : PT AV := Nd .nilslice (Nd (Ii 5) (Lf .nilslice) Em) (Lf (Sl 2155 0 1 1 1))
def odX359 : PT AV := Nd .nilslice (Nd (Ii 5) (Lf .nilslice) Em) (Lf (Sl 2163 0 1 1 1))
def odX358 : PT AV := Nd .nilslice (Nd (Ii 5) (Lf .nilslice) Em) (Lf (Sl 2176 0 1 1 1))
def odX357 : PT AV := Nd .nilslice (Nd (Ii 0) (Lf Se) (Lf Ff)) (Nd .nilslice (Lf Se) Em)
def odX356 : PT AV := Nd (Sn 10004 0 1 1) (Nd .nilslice (Lf .nilslice) Em) (Lf .nilslice)
def odX355 : PT AV := Nd (Sn 10004 0 2 1) (Nd .nilslice (Lf .nilslice) Em) (Lf .nilslice)
def odX354 : PT AV := Nd .nilslice (Nd .nilslice (Lf .nilslice) Em) (Lf (Sn 10003 0 2 1))
def odX353 : PT AV := Nd Se (Nd (.str [99]) (Lf Se) (Lf (.str [102]))) (Nd Se (Lf Se) Em)
def odX352 : AV := .agg [(Ii 1), Se, .nilslice, .nilslice, .nilslice, (Sl 266 0 1 1 6)]
def odX351 : PT AV := Nd (.str [97,110,100]) (Nd (Ii 5) (Lf Se) Em) (Nd (Ii 0) (Lf Ff) Em)
def odX350 : PT AV := Nd Ff (Nd (Sn 3106 0 2 9) (Lf (Sn 3148 0 1 1)) Em) (Lf (Sn 3135 0 1 9))
def odX349 : PT AV := Nd Ff (Nd (Sn 3107 0 2 9) (Lf (Sn 3150 0 1 1)) Em) (Lf (Sn 3137 0 1 9))
def odX348 : PT AV := Nd Ff (Nd (Sn 3108 0 2 9) (Lf (Sn 3152 0 1 1)) Em) (Lf (Sn 3139 0 1 9))
def odX347 : PT AV := Nd Ff (Nd (Sn 3114 0 2 9) (Lf (Sn 3164 0 1 1)) Em) (Lf (Sn 3151 0 1 9))
def odX346 : PT AV := Nd (Ii 0) (Nd (Ii 0) (Lf (Ii 0)) (Lf (Ii 0))) (Nd (Ii 0) (Lf (Ii 0)) Em)
def odX345 : PT AV := Nd (Ii 0) (Nd (Ii 0) (Lf (Ii 0)) (Lf (Ii 1))) (Nd (Ii 0) (Lf (Ii 0)) Em)
def odX344 : PT AV := Nd (Ii 0) (Nd (Ii 0) (Lf (Ii 0)) (Lf (Ii 5))) (Nd (Ii 0) (Lf (Ii 0)) Em)
def odX343 : PT AV := Nd (Ii 2) (Nd (Ii 0) (Lf (Ii 0)) (Lf (Ii 0))) (Nd (Ii 1) (Lf (Ii 1)) Em)
def odX342 : PT AV := Nd (Ii 2) (Nd (Ii 0) (Lf (Ii 2)) (Lf (Ii 0))) (Nd (Ii 0) (Lf (Ii 0)) Em)
def odX341 : PT AV := Nd (Ii 1) (Nd (Ii 10) (Lf (Ii 1)) (Lf (Ii 0))) (Nd (Ii 0) (Lf (Ii 0)) Em)
def odX340 : PT AV := Nd (Ii 1) (Nd (Ii 10) (Lf (Ii 1)) (Lf (Ii 9))) (Nd (Ii 0) (Lf (Ii 0)) Em)
def odX339 : PT AV := Nd Ff (Nd (Sn 2192 0 2 9) (Lf (Sl 2277 0 1 1 1)) Em) (Lf (Sn 2240 0 1 9))
def odX338 : PT AV := Nd Ff (Nd (Sn 2200 0 2 9) (Lf (Sl 2293 0 1 1 1)) Em) (Lf (Sn 2256 0 1 9))
def odX337 : PT AV := Nd Ff (Nd (Sn 2208 0 2 9) (Lf (Sl 2309 0 1 1 1)) Em) (Lf (Sn 2272 0 1 9))
def odX336 : PT AV := Nd Ff (Nd (Sn 2221 0 2 9) (Lf (Sl 2335 0 1 1 1)) Em) (Lf (Sn 2298 0 1 9))
def odX335 : PT AV := Nd (Ii 1) (Nd Se (Lf Se) (Lf Ff)) (Nd .nilslice (Lf (Ii 0)) (Lf .nilslice))
def odX334 : PT AV := Nd (Ii 4) (Nd Se (Lf Se) (Lf Ff)) (Nd .nilslice (Lf (Ii 0)) (Lf .nilslice))
def odX333 : PT AV := Nd (Ii 4) (Nd Se (Lf Se) (Lf Tt)) (Nd .nilslice (Lf (Ii 0)) (Lf .nilslice))
def odX332 : PT AV := Nd Se (Nd Se (Nd Se (Lf Se) Em) (Lf Se)) (Nd Se (Nd Se (Lf Se) Em) (Lf Se))
def odX331 : PT AV := Nd .nilslice (Nd .nilslice (Lf .nilslice) Em) (Nd .nilslice (Lf .nilslice) Em)
def odX330 : PT AV := Nd (.int .u64 (.ofNat 0)) (Lf (.int .u64 (.ofNat 0))) (Lf (.int .u64 (.ofNat 0)))
def odX329 : PT AV := Nd (.int .u64 (.ofNat 0)) (Lf (.int .u64 (.ofNat 1))) (Lf (.int .u64 (.ofNat 0)))
def odX328 : PT AV := Nd (.int .u64 (.ofNat 0)) (Lf (.int .u64 (.ofNat 2))) (Lf (.int .u64 (.ofNat 0)))
def odX327 : PT AV := Nd (.int .u64 (.ofNat 1)) (Lf (.int .u64 (.ofNat 0))) (Lf (.int .u64 (.ofNat 0)))
def odX326 : PT AV := Nd (.int .u64 (.ofNat 1)) (Lf (.int .u64 (.ofNat 1))) (Lf (.int .u64 (.ofNat 0)))
def odX325 : PT AV := Nd (Ii 0) (Nd (Ii 0) (Lf (Ii 0)) (Lf (Ii 0))) (Nd (Ii 0) (Lf (Ii 0)) (Lf (Ii 0)))
def odX324 : PT AV := Nd (Ii 0) (Nd (Ii 0) (Lf (Ii 0)) (Lf (Ii 0))) (Nd (Ii 0) (Lf (Ii 0)) (Lf (Ii 1)))
def odX323 : PT AV := Nd (Ii 0) (Nd (Ii 1) (Lf (Ii 1)) (Lf (Ii 0))) (Nd (Ii 0) (Lf (Ii 0)) (Lf (Ii 0)))
def odX322 : PT AV := Nd (Ii 0) (Nd (Ii 1) (Lf (Ii 1)) (Lf (Ii 0))) (Nd (Ii 0) (Lf (Ii 0)) (Lf (Ii 9)))
def odX321 : Blk := Ce odX335 7
def odX320 : Blk := Ce odX334 7
def odX319 : Blk := Ce odX333 7
def odX318 : PT AV := Nd (Ii 0) (Nd (Ii 12) (Lf (Ii 0)) (Lf (Ii 0))) (Nd (Ii 0) (Lf (Ii 11)) (Lf (Ii 11)))
def odX317 : PT AV := Nd (Ii 6) (Nd Se (Lf (.str [102])) (Lf Ff)) (Nd .nilslice (Lf (Ii 0)) (Lf .nilslice))
def odX316 : PT AV := Nd .nilslice (Nd .nilslice (Lf .nilslice) Em) (Nd .nilslice (Lf (Sn 4376 0 4 16)) Em)
def odX315 : PT AV := Nd Se (Nd Se (Nd Se (Lf Se) Em) (Lf Se)) odX547
def odX314 : PT AV := Nd .nilslice (Nd (Sn 10005 0 6 16) (Lf .nilslice) Em) (Nd .nilslice (Lf .nilslice) Em)
def odX313 : PT AV := Nd .nilslice (Nd (Sn 10005 0 7 16) (Lf .nilslice) Em) (Nd .nilslice (Lf .nilslice) Em)
def odX312 : PT AV := Nd .nilslice (Nd (Sn 10006 0 5 16) (Lf .nilslice) Em) (Nd .nilslice (Lf .nilslice) Em)
def odX311 : PT AV := Nd .nilslice (Nd (Sn 10008 0 6 16) (Lf .nilslice) Em) (Nd .nilslice (Lf .nilslice) Em)
def odX310 : PT AV := Nd Se odX542 (Nd Se (Nd Se (Lf Se) Em) (Lf Se))
def odX309 : Blk := Ce odX335 7 false
def odX308 : Blk := Ce odX334 7 false
def odX307 : Blk := Ce odX333 7 false
def odX306 : PT AV := Nd .nilslice odX549 (Nd .nilslice (Lf .nilslice) Em)
def odX305 : PT AV := Nd .nilslice (Nd Se (Lf (.str [102])) (Lf Se)) odX549
def odX304 : Blk := Ce odX317 7
def odX303 : PT AV := Nd Se (Nd Se (Nd Se (Lf Se) Em) (Lf Se)) (Nd (.str [98]) (Nd Se (Lf (.str [102])) Em) (Lf Se))
def odX302 : PT AV := Nd (Ii 0) odX481 (Nd (Ii 0) (Lf (Ii 0)) (Lf (Ii 0)))
def odX301 : PT AV := Nd (Ii 0) odX481 (Nd (Ii 2) (Lf (Ii 0)) (Lf (Ii 0)))
def odX300 : PT AV := Nd (Ii 0) odX474 (Nd (Ii 0) (Lf (Ii 1)) (Lf (Ii 0)))
def odX299 : PT AV := Nd Se (Nd Se (Nd Se (Lf Se) Em) (Lf Se)) (Nd Se (Nd Se (Lf Se) Em) (Lf (.str [116,114,117,101])))
def odX298 : PT AV := Nd Se odX542 odX542
def odX297 : Blk := Ce odX317 7 false
def odX296 : PT AV := Nd .nilslice odX451 (Nd (Sn 3081 0 1 1) (Lf Se) (Lf Se))
def odX295 : PT AV := Nd .nilslice odX549 odX549
def odX294 : PT AV := Nd Se odX457 odX542
def odX293 : PT AV := Nd .nilslice odX451 (Nd (Sl 2061 0 1 1 1) (Lf Se) (Lf Se))
def odX292 : PT AV := Nd .nilslice odX451 (Nd (Sl 2069 0 1 1 1) (Lf Se) (Lf Se))
def odX291 : PT AV := Nd .nilslice odX451 (Nd (Sl 2077 0 1 1 1) (Lf Se) (Lf Se))
def odX290 : PT AV := Nd .nilslice odX451 (Nd (Sl 2090 0 1 1 1) (Lf Se) (Lf Se))
def odX289 : PT AV := Nd Se odX439 (Nd (.str [99]) (Nd Se (Lf Se) Em) (Lf Se))
def odX288 : PT AV := Nd (Ii 0) odX481 odX481
def odX287 : PT AV := Nd (Ii 0) odX481 odX478
def odX286 : PT AV := Nd (Ii 0) odX473 odX481
def odX285 : PT AV := Nd (Ii 0) odX473 odX470
def odX284 : PT AV := Nd (.int .u64 (.ofNat 0)) odX438 (Lf (.int .u64 (.ofNat 0)))
def odX283 : PT AV := Nd (.int .u64 (.ofNat 0)) odX436 (Lf (.int .u64 (.ofNat 0)))
def odX282 : PT AV := Nd (.int .u64 (.ofNat 1)) odX438 (Lf (.int .u64 (.ofNat 0)))
def odX281 : PT AV := Nd (.int .u64 (.ofNat 1)) odX438 (Lf (.int .u64 (.ofNat 1)))
def odX280 : PT AV := Nd (Ii 0) odX473 (Nd (Ii 10) (Nd (Ii 0) (Lf (Ii 9)) Em) (Lf (Ii 0)))
def odX279 : PT AV := Nd .nilslice odX489 (Nd (Sn 3087 0 2 9) (Lf (Sn 3129 0 1 1)) (Lf Se))
def odX278 : PT AV := Nd .nilslice odX489 (Nd (Sn 3088 0 2 9) (Lf (Sn 3130 0 1 1)) (Lf Se))
def odX277 : PT AV := Nd .nilslice odX489 (Nd (Sn 3089 0 2 9) (Lf (Sn 3131 0 1 1)) (Lf Se))
def odX276 : PT AV := Nd .nilslice odX489 (Nd (Sn 3095 0 2 9) (Lf (Sn 3137 0 1 1)) (Lf Se))
def odX275 : PT AV := Nd Se odX441 odX457
def odX274 : Blk := Ce (Nd (Ii 1) (Nd Se (Nd .nilslice (Lf .nilslice) Em) (Lf Se)) (Nd .nilslice (Lf (Ii 2)) (Lf .nilslice))) 8 false
def odX273 : PT AV := Nd .nilslice odX489 (Nd (Sn 2118 0 2 9) (Lf (Sl 2220 0 1 1 1)) (Lf Se))
def odX272 : PT AV := Nd .nilslice odX489 (Nd (Sn 2126 0 2 9) (Lf (Sl 2236 0 1 1 1)) (Lf Se))
def odX271 : PT AV := Nd .nilslice odX489 (Nd (Sn 2134 0 2 9) (Lf (Sl 2252 0 1 1 1)) (Lf Se))
def odX270 : PT AV := Nd .nilslice odX489 (Nd (Sn 2147 0 2 9) (Lf (Sl 2278 0 1 1 1)) (Lf Se))
def odX269 : PT AV := Nd Se odX441 odX441
def odX268 : PT AV := Nd Se (Nd (Ii 10) (Nd (Ii 0) (Lf (Ii 1)) Em) (Nd (Ii 0) (Lf (Ii 12)) Em)) odX542
def odX267 : PT AV := Nd .nilslice odX412 odX549
def odX266 : PT AV := Nd Se (Nd (.str [111,114]) (Nd (Ii 4) (Lf Se) Em) (Nd (Ii 0) (Lf Ff) Em)) odX491
def odX265 : PT AV := Nd Se (Nd (.str [97,110,100]) (Nd (Ii 4) (Lf Se) Em) (Nd (Ii 0) (Lf Ff) Em)) odX491
def odX264 : PT AV := Nd (Ii 0) odX394 odX481
def odX263 : PT AV := Nd (Ii 0) odX384 odX480
def odX262 : PT AV := Nd .nilslice odX481 odX412
def odX261 : PT AV := Nd .nilslice odX478 odX412
def odX260 : PT AV := Nd .nilslice odX411 odX488
def odX259 : PT AV := Nd (Ii 0) (Nd (Ii 1) (Nd (Ii 0) (Lf (Ii 0)) Em) (Nd (Ii 0) (Lf (Ii 9)) Em)) (Nd (Ii 10) (Nd (Ii 0) (Lf (Ii 0)) Em) (Lf (Ii 1)))
def odX258 : AV := .agg [(Ii 1), (Ii 0), (Ii 0), Se, Se, Se, Se, Se, Se, Se, Se, Se, (Ii 0), (Ii 0), (Ii 0), (Ii 0), (Ii 0), (Ii 0), (Ii 0), (Ii 0)]
def odX257 : PT AV := Nd .nilslice (Nd (Ii 0) (Nd Se (Lf .nilslice) Em) (Nd Ff (Lf (Sn 3089 0 1 1)) Em)) odX487
def odX256 : Blk := Ce (Nd (Ii 1) (Nd (Ii 54) (Nd Se (Lf Ff) Em) (Lf .nilslice)) odX397) 9 false
def odX255 : Blk := Ce (Nd (Ii 1) (Nd (Ii 57) (Nd Se (Lf Ff) Em) (Lf .nilslice)) odX397) 9 false
def odX254 : Blk := Ce (Nd (Ii 1) (Nd (Ii 58) (Nd Se (Lf Ff) Em) (Lf .nilslice)) odX397) 9 false
def odX253 : Blk := Ce (Nd (Ii 1) (Nd (Ii 59) (Nd Se (Lf Ff) Em) (Lf .nilslice)) odX397) 9 false
def odX252 : Blk := Ce (Nd (Ii 1) (Nd (Ii 60) (Nd Se (Lf Ff) Em) (Lf .nilslice)) odX397) 9 false
def odX251 : Blk := Ce (Nd (Ii 1) (Nd (Ii 61) (Nd Se (Lf Ff) Em) (Lf .nilslice)) odX397) 9 false
def odX250 : Blk := Ce (Nd (Ii 1) odX523 odX397) 9 false
def odX249 : Blk := Ce (Nd (Ii 1) (Nd (Ii 64) (Nd Se (Lf Ff) Em) (Lf .nilslice)) odX397) 9 false
def odX248 : Blk := Ce (Nd (Ii 1) odX522 odX397) 9 false
def odX247 : Blk := Ce (Nd (Ii 1) odX521 odX397) 9 false
def odX246 : Blk := Ce (Nd (Ii 1) odX518 odX397) 9 false
def odX245 : Blk := Ce (Nd (Ii 1) (Nd (Ii 105) (Nd Se (Lf Ff) Em) (Lf .nilslice)) odX396) 9 false
def odX244 : Blk := Ce (Nd (Ii 1) (Nd (Ii 111) (Nd Se (Lf Ff) Em) (Lf .nilslice)) odX396) 9 false
def odX243 : Blk := Ce (Nd (Ii 1) (Nd (Ii 113) (Nd Se (Lf Ff) Em) (Lf .nilslice)) odX396) 9 false
def odX242 : Blk := Ce (Nd (Ii 1) (Nd (Ii 115) (Nd Se (Lf Ff) Em) (Lf .nilslice)) odX396) 9 false
def odX241 : Blk := Ce (Nd (Ii 1) (Nd (Ii 117) (Nd Se (Lf Ff) Em) (Lf .nilslice)) odX396) 9 false
def odX240 : Blk := Ce (Nd (Ii 1) (Nd (Ii 119) (Nd Se (Lf Ff) Em) (Lf .nilslice)) odX396) 9 false
def odX239 : Blk := Ce (Nd (Ii 1) (Nd (Ii 123) (Nd Se (Lf Ff) Em) (Lf .nilslice)) odX396) 9 false
def odX238 : Blk := Ce (Nd (Ii 1) (Nd (Ii 125) (Nd Se (Lf Ff) Em) (Lf .nilslice)) odX396) 9 false
def odX237 : Blk := Ce (Nd (Ii 1) (Nd (Ii 129) (Nd Se (Lf Ff) Em) (Lf .nilslice)) odX396) 9 false
def odX236 : Blk := Ce (Nd (Ii 1) (Nd (Ii 131) (Nd Se (Lf Ff) Em) (Lf .nilslice)) odX396) 9 false
def odX235 : Blk := Ce (Nd (Ii 1) (Nd (Ii 137) (Nd Se (Lf Ff) Em) (Lf .nilslice)) odX396) 9 false
def odX234 : PT AV := Nd .nilslice odX412 odX412
def odX233 : PT AV := Nd Se odX368 odX368
def odX232 : PT AV := Nd (Ii 0) odX394 odX394
def odX231 : PT AV := Nd (Ii 0) odX394 odX393
def odX230 : PT AV := Nd (Ii 0) odX382 odX387
def odX229 : PT AV := Nd .nilslice odX330 odX549
def odX228 : PT AV := Nd (.int .u64 (.ofNat 0)) odX438 odX438
def odX227 : PT AV := Nd (.int .u64 (.ofNat 0)) odX438 odX436
def odX226 : PT AV := Nd (.int .u64 (.ofNat 0)) odX437 odX438
def odX225 : PT AV := Nd (.int .u64 (.ofNat 0)) odX436 odX438
def odX224 : PT AV := Nd (.int .u64 (.ofNat 1)) odX438 odX438
def odX223 : PT AV := Nd (.int .u64 (.ofNat 1)) odX437 odX438
def odX222 : PT AV := Nd (.int .u64 (.ofNat 2)) odX438 odX436
def odX221 : PT AV := Nd (Ii 1) (Nd Tt (Nd Se (Lf Ff) (Lf .nilslice)) (Nd .nilslice (Lf Se) Em)) (Nd (Ii 0) (Nd .nilslice (Lf (Ii 0)) Em) (Nd (Ii 1) (Lf .nilslice) Em))
def odX220 : PT AV := Nd .nilslice (Nd (.str [98]) (Nd Se (Lf Se) Em) (Nd Se (Lf Se) Em)) odX331
def odX219 : PT AV := Nd .nilslice odX443 odX331
def odX218 : PT AV := Nd (Ii 0) odX346 odX394
def odX217 : PT AV := Nd (Ii 0) odX346 (Nd (Ii 0) (Nd (Ii 5) (Lf (Ii 0)) Em) (Nd (Ii 0) (Lf (Ii 0)) Em))
def odX216 : PT AV := Nd (Ii 0) (Nd (Ii 1) (Nd (Ii 0) (Lf (Ii 1)) (Lf (Ii 0))) (Nd (Ii 0) (Lf (Ii 0)) Em)) odX382
def odX215 : Blk := Ce odX221 12
def odX214 : PT AV := Nd .nilslice odX331 odX412
def odX213 : Blk := Ce (Nd (Bu 97) (Nd (Bu 98) (Nd (Bu 114) (Lf (Bu 114)) Em) (Nd (Bu 101) (Lf (Bu 101)) Em)) (Nd (Bu 116) (Nd (Bu 117) (Lf (Bu 117)) Em) (Lf (Bu 116)))) 10 false
def odX212 : PT AV := Nd (Ii 0) odX346 (Nd (Ii 0) (Nd (Ii 0) (Lf (Ii 1)) (Lf (Ii 1))) (Nd (Ii 0) (Lf (Ii 0)) Em))
def odX211 : PT AV := Nd .nilslice (Nd (Ii 0) (Nd (Ii 0) (Lf (Ii 0)) Em) (Nd (Ii 0) (Lf (Ii 3)) Em)) odX331
def odX210 : PT AV := Nd .nilslice (Nd (Ii 0) (Nd (Ii 0) (Lf (Ii 0)) Em) (Nd (Ii 0) (Lf (Ii 4)) Em)) odX331
def odX209 : PT AV := Nd .nilslice (Nd (Ii 0) (Nd (Ii 0) (Lf (Ii 0)) Em) (Nd (Ii 0) (Lf (Ii 6)) Em)) odX331
def odX208 : PT AV := Nd .nilslice (Nd (Ii 0) (Nd (Ii 0) (Lf (Ii 3)) Em) (Nd (Ii 0) (Lf (Ii 0)) Em)) odX331
def odX207 : PT AV := Nd .nilslice (Nd (Ii 0) (Nd (Ii 0) (Lf (Ii 4)) Em) (Nd (Ii 0) (Lf (Ii 0)) Em)) odX331
def odX206 : PT AV := Nd .nilslice (Nd (Ii 0) (Nd (Ii 0) (Lf (Ii 5)) Em) (Nd (Ii 0) (Lf (Ii 0)) Em)) odX331
def odX205 : PT AV := Nd .nilslice (Nd (Ii 0) (Nd (Ii 0) (Lf (Ii 6)) Em) (Nd (Ii 0) (Lf (Ii 0)) Em)) odX331
def odX204 : PT AV := Nd .nilslice (Nd (Ii 0) (Nd (Ii 0) (Lf (Ii 8)) Em) (Nd (Ii 0) (Lf (Ii 0)) Em)) odX331
def odX203 : Blk := Ce odX221 12 false
def odX202 : PT AV := Nd Se odX332 odX332
def odX201 : PT AV := Nd (.int .u64 (.ofNat 0)) odX330 odX438
def odX200 : PT AV := Nd (.int .u64 (.ofNat 2)) odX329 odX438
def odX199 : PT AV := Nd (Ii 0) odX325 odX346
def odX198 : PT AV := Nd (Ii 0) (Nd Se (Nd (Ii 0) (Lf (Ii 9)) (Lf (Ii 11))) (Nd Se (Lf Se) (Lf Se))) (Nd .nilslice (Nd (Ii 0) (Lf (Ii 0)) (Lf (Ii 1))) odX549)
def odX197 : PT AV := Nd .nilslice odX331 odX331
def odX196 : Blk := Ce (Nd (Bu 97) (Nd (Bu 99) (Nd (Bu 116) (Lf (Bu 116)) Em) (Nd (Bu 117) (Lf (Bu 117)) Em)) (Nd (Bu 100) (Nd (Bu 114) (Lf (Bu 114)) Em) (Nd (Bu 101) (Lf (Bu 101)) Em))) 11 false
def odX195 : PT AV := Nd (Ii 0) odX325 odX325
def odX194 : PT AV := Nd (Ii 0) odX323 (Nd (Ii 0) (Nd (Ii 0) (Lf (Ii 0)) (Lf (Ii 0))) (Nd (Ii 0) (Lf (Ii 1)) (Lf (Ii 1))))
def odX193 : PT AV := Nd .nilslice odX346 odX306
def odX192 : PT AV := Nd Se odX310 odX310
def odX191 : Blk := Ce (Nd (Bu 97) (Nd (Bu 99) (Nd (Bu 102) (Lf (Bu 101)) (Lf (Bu 101))) (Nd (Bu 108) (Lf (Bu 114)) Em)) (Nd (Bu 100) (Nd (Bu 97) (Lf (Bu 116)) Em) (Nd (Bu 115) (Lf (Bu 117)) Em))) 12 false
def odX190 : PT AV := Nd .nilslice odX306 odX331
def odX189 : Blk := Ce (Nd (Ii 6) (Nd Se (Nd (.str [110,111,116]) (Lf (Ii 1)) (Lf (Ii 0))) (Nd Ff (Lf .nilslice) (Lf .nilslice))) odX357) 14 false
def odX188 : Blk := Ce (Nd (Ii 6) (Nd Se (Nd (.str [110,111,116]) (Lf (Ii 4)) (Lf (Ii 0))) (Nd Ff (Lf .nilslice) (Lf .nilslice))) (Nd .nilslice (Nd (Ii 0) (Lf Se) (Lf Tt)) (Nd .nilslice (Lf Se) Em))) 14 false
def odX187 : PT AV := Nd .nilslice odX284 odX412
def odX186 : PT AV := Nd (.int .u64 (.ofNat 0)) odX330 odX330
def odX185 : PT AV := Nd .nilslice odX306 odX306
def odX184 : PT AV := Nd Se odX298 odX298
def odX183 : PT AV := Nd (Ii 0) odX302 odX302
def odX182 : PT AV := Nd (Ii 0) odX300 (Nd (Ii 0) (Nd (Ii 1) (Nd (Ii 1) (Lf (Ii 1)) Em) (Lf (Ii 1))) (Nd (Ii 0) (Lf (Ii 0)) (Lf (Ii 0))))
def odX181 : PT AV := Nd .nilslice odX295 odX306
def odX180 : PT AV := Nd Se odX294 odX294
def odX179 : PT AV := Nd (Ii 0) (Nd (Ii 0) odX412 (Nd (Ii 0) (Lf (Ii 1)) (Lf (Ii 0)))) (Nd .nilslice (Nd (Ii 0) (Lf (Ii 0)) (Lf (Ii 0))) odX549)
def odX178 : PT AV := Nd .nilslice odX295 odX295
def odX177 : PT AV := Nd .nilslice odX295 (Nd .nilslice (Nd (Sn 4308 0 6 16) (Lf .nilslice) (Lf .nilslice)) odX549)
def odX176 : PT AV := Nd .nilslice odX295 (Nd .nilslice odX450 odX549)
def odX175 : PT AV := Nd .nilslice odX295 (Nd .nilslice odX448 odX549)
def odX174 : PT AV := Nd Se odX275 odX275
def odX173 : PT AV := Nd (Ii 0) odX288 odX288
def odX172 : PT AV := Nd (Ii 0) (Nd (Ii 0) odX480 odX474) (Nd (Ii 0) odX481 odX477)
def odX171 : PT AV := Nd (Ii 0) odX285 (Nd (Ii 0) odX474 (Nd (Ii 0) (Nd (Ii 1) (Lf (Ii 1)) Em) (Lf (Ii 1))))
def odX170 : PT AV := Nd (Ii 0) (Nd (Ii 0) (Nd (Ii 2) (Nd (Ii 0) (Lf (Ii 0)) Em) (Lf (Ii 2))) (Nd (Ii 2) (Nd (Ii 2) (Lf (Ii 0)) Em) (Lf (Ii 0)))) (Nd (Ii 0) odX469 (Nd (Ii 0) (Nd (Ii 2) (Lf (Ii 1)) Em) (Lf (Ii 1))))
def odX169 : PT AV := Nd .nilslice odX228 odX331
def odX168 : PT AV := Nd .nilslice odX226 (Nd .nilslice (Nd .nilslice (Lf .nilslice) Em) (Nd .nilslice (Lf (Sn 10004 0 4 16)) Em))
def odX167 : PT AV := Nd .nilslice odX226 (Nd .nilslice (Nd .nilslice (Lf .nilslice) Em) (Nd .nilslice (Lf (Sn 10006 0 4 16)) Em))
def odX166 : PT AV := Nd (.int .u64 (.ofNat 0)) odX284 odX284
def odX165 : PT AV := Nd (.int .u64 (.ofNat 0)) odX282 odX283
def odX164 : PT AV := Nd .nilslice odX267 odX267
def odX163 : PT AV := Nd (Ii 0) odX264 odX264
def odX162 : PT AV := Nd (Ii 0) (Nd (Ii 0) odX394 odX473) (Nd (Ii 0) odX388 odX474)
def odX161 : PT AV := Nd (Ii 0) odX263 (Nd (Ii 0) odX389 odX470)
def odX160 : PT AV := Nd .nilslice (Nd (.int .u64 (.ofNat 0)) odX329 odX438) odX306
def odX159 : Blk := Ce (Nd (Ii 6) (Nd Se (Nd (.str [101,113]) (Nd (Ii 1) (Lf Se) Em) (Nd (Ii 0) (Lf Ff) Em)) odX491) (Nd .nilslice odX411 (Nd .nilslice (Nd Se (Lf (Ii 0)) Em) (Lf (Ii 1))))) 21 false
def odX158 : Blk := Ce (Nd (Ii 6) (Nd Se (Nd (.str [101,113]) (Nd (Ii 3) (Lf Se) Em) (Nd (Ii 1) (Lf Ff) Em)) odX491) (Nd .nilslice odX411 (Nd .nilslice (Nd Se (Lf (Ii 1)) Em) (Lf (Ii 3))))) 21 false
def odX157 : Blk := Ce (Nd (Ii 6) (Nd Se (Nd (.str [108,116]) (Nd (Ii 3) (Lf Se) Em) (Nd (Ii 1) (Lf Ff) Em)) odX491) (Nd .nilslice odX411 (Nd .nilslice (Nd Se (Lf (Ii 2)) Em) (Lf (Ii 3))))) 21 false
def odX156 : Blk := Ce (Nd (Ii 6) odX265 (Nd .nilslice (Nd (Ii 0) (Nd Se (Lf .nilslice) Em) (Nd Tt (Lf .nilslice) Em)) odX488)) 21 false
def odX155 : PT AV := Nd Se (Nd (Ii 10) (Nd (Ii 0) (Nd (Ii 12) (Lf (Ii 0)) (Lf (Ii 9))) (Nd (Ii 0) (Lf (Ii 0)) Em)) (Nd (Ii 0) (Nd (Ii 0) (Lf (Ii 11)) (Lf (Ii 11))) (Nd (Ii 0) (Lf (Ii 0)) Em))) (Nd Se odX457 odX457)
def odX154 : PT AV := Nd (Ii 0) (Nd (Ii 0) odX331 odX481) odX262
def odX153 : PT AV := Nd (.int .u64 (.ofNat 0)) odX228 odX284
def odX152 : PT AV := Nd .nilslice odX234 odX234
def odX151 : PT AV := Nd (Ii 0) odX232 odX232
def odX150 : PT AV := Nd (Ii 0) (Nd (Ii 0) (Nd (Ii 0) (Nd (Ii 1) (Lf (Ii 1)) Em) (Nd (Ii 0) (Lf (Ii 0)) Em)) odX394) (Nd (Ii 0) odX394 odX389)
def odX149 : PT AV := Nd (Ii 0) odX268 (Nd .nilslice odX390 (Nd .nilslice (Nd .nilslice (Lf .nilslice) Em) (Nd .nilslice (Lf (Sn 10005 0 2 16)) Em)))
def odX148 : PT AV := Nd (Ii 0) odX268 (Nd .nilslice odX390 (Nd .nilslice (Nd .nilslice (Lf .nilslice) Em) (Nd .nilslice (Lf (Sn 10007 0 2 16)) Em)))
def odX147 : PT AV := Nd (Ii 0) odX268 (Nd .nilslice odX390 (Nd .nilslice (Nd .nilslice (Lf .nilslice) Em) (Nd .nilslice (Lf (Sn 10007 0 4 16)) Em)))
def odX146 : PT AV := Nd (Ii 0) odX268 (Nd .nilslice odX390 (Nd .nilslice (Nd .nilslice (Lf .nilslice) Em) (Nd .nilslice (Lf (Sn 10009 0 4 16)) Em)))
def odX145 : PT AV := Nd .nilslice odX234 (Nd .nilslice odX412 (Nd (Sn 4288 0 6 16) (Nd .nilslice (Lf .nilslice) Em) (Lf .nilslice)))
def odX144 : PT AV := Nd .nilslice odX234 (Nd .nilslice odX412 (Nd (Sn 4378 0 6 16) (Nd .nilslice (Lf .nilslice) Em) (Lf .nilslice)))
def odX143 : PT AV := Nd .nilslice odX234 (Nd .nilslice odX412 (Nd (Sn 10003 0 6 16) (Nd .nilslice (Lf .nilslice) Em) (Lf .nilslice)))
def odX142 : PT AV := Nd .nilslice odX234 (Nd .nilslice odX412 (Nd (Sn 10005 0 6 16) (Nd .nilslice (Lf .nilslice) Em) (Lf .nilslice)))
def odX141 : PT AV := Nd .nilslice odX234 (Nd .nilslice odX412 (Nd (Sn 10006 0 6 16) (Nd .nilslice (Lf .nilslice) Em) (Lf .nilslice)))
def odX140 : PT AV := Nd .nilslice odX234 (Nd .nilslice odX412 (Nd (Sn 10008 0 6 16) (Nd .nilslice (Lf .nilslice) Em) (Lf .nilslice)))
def odX139 : PT AV := Nd Se (Nd (Ii 10) odX322 odX318) odX269
def odX138 : PT AV := Nd Se (Nd (Ii 10) (Nd (Ii 0) (Nd (Ii 8) (Lf (Ii 8)) (Lf (Ii 0))) (Nd (Ii 0) (Lf (Ii 0)) (Lf (Ii 9)))) odX318) odX269
def odX137 : PT AV := Nd .nilslice odX214 odX234
def odX136 : PT AV := Nd (Ii 0) odX218 odX218
def odX135 : PT AV := Nd (Ii 0) (Nd (Ii 0) (Nd (Ii 1) (Nd (Ii 2) (Lf (Ii 2)) (Lf (Ii 0))) (Nd (Ii 0) (Lf (Ii 0)) Em)) odX379) (Nd (Ii 0) (Nd (Ii 0) (Nd (Ii 1) (Lf (Ii 2)) (Lf (Ii 1))) (Nd (Ii 1) (Lf (Ii 1)) Em)) odX380)
def odX134 : PT AV := Nd (.int .u64 (.ofNat 0)) odX228 odX228
def odX133 : PT AV := Nd (.int .u64 (.ofNat 0)) odX224 odX227
def odX132 : PT AV := Nd Se (Nd .nilslice odX393 odX331) odX220
def odX131 : PT AV := Nd Se (Nd .nilslice (Nd (Ii 0) (Nd (Ii 0) (Lf (Ii 0)) Em) (Nd (Ii 0) (Lf (Ii 2)) Em)) odX331) odX220
def odX130 : PT AV := Nd Se odX211 odX220
def odX129 : PT AV := Nd Se odX211 odX219
def odX128 : PT AV := Nd Se odX210 odX220
def odX127 : PT AV := Nd Se odX210 odX219
def odX126 : PT AV := Nd Se (Nd .nilslice (Nd (Ii 0) (Nd (Ii 0) (Lf (Ii 0)) Em) (Nd (Ii 0) (Lf (Ii 5)) Em)) odX331) odX219
def odX125 : PT AV := Nd Se odX209 odX220
def odX124 : PT AV := Nd Se odX209 odX219
def odX123 : PT AV := Nd Se (Nd .nilslice (Nd (Ii 0) (Nd (Ii 0) (Lf (Ii 0)) Em) (Nd (Ii 0) (Lf (Ii 8)) Em)) odX331) odX219
def odX122 : PT AV := Nd .nilslice odX214 odX214
def odX121 : PT AV := Nd .nilslice (Nd .nilslice (Nd .nilslice (Nd (Sn 4311 0 6 16) (Lf .nilslice) Em) (Nd .nilslice (Lf .nilslice) Em)) odX412) odX214
def odX120 : PT AV := Nd .nilslice (Nd .nilslice (Nd .nilslice (Nd (Sn 4401 0 6 16) (Lf .nilslice) Em) (Nd .nilslice (Lf .nilslice) Em)) odX412) odX214
def odX119 : PT AV := Nd .nilslice (Nd .nilslice odX314 odX412) odX214
def odX118 : PT AV := Nd .nilslice (Nd .nilslice odX313 odX412) odX214
def odX117 : PT AV := Nd .nilslice (Nd .nilslice odX312 odX412) odX214
def odX116 : PT AV := Nd .nilslice (Nd .nilslice odX311 odX412) odX214
def odX115 : PT AV := Nd (Ii 0) (Nd (Ii 0) odX306 odX394) (Nd .nilslice odX394 odX331)
def odX114 : PT AV := Nd .nilslice odX197 odX214
def odX113 : PT AV := Nd (Ii 0) odX199 odX199
def odX112 : PT AV := Nd Se (Nd (Ii 10) (Nd (Ii 0) odX471 (Nd (Ii 12) (Lf (Ii 8)) (Lf (Ii 0)))) (Nd (Ii 0) (Nd (Ii 8) (Nd (Ii 1) (Lf (Ii 11)) Em) (Lf (Ii 11))) (Nd (Ii 0) (Lf (Ii 0)) (Lf (Ii 0))))) odX233
def odX111 : PT AV := Nd .nilslice odX197 odX197
def odX110 : PT AV := Nd (.int .u64 (.ofNat 0)) odX201 odX201
def odX109 : PT AV := Nd .nilslice (Nd (Ii 0) odX344 odX346) odX185
def odX108 : PT AV := Nd .nilslice odX190 odX197
def odX107 : PT AV := Nd (Ii 0) (Nd (Ii 0) odX295 odX346) odX193
def odX106 : PT AV := Nd .nilslice odX190 odX190
def odX105 : PT AV := Nd Se (Nd (Ii 10) (Nd (Ii 0) odX479 (Nd (Ii 8) (Nd (Ii 0) (Lf (Ii 9)) Em) (Lf (Ii 0)))) (Nd (Ii 0) (Nd (Ii 9) (Nd (Ii 0) (Lf (Ii 0)) Em) (Lf (Ii 0))) (Nd (Ii 12) (Nd (Ii 9) (Lf (Ii 11)) Em) (Lf (Ii 11))))) odX202
def odX104 : PT AV := Nd Se (Nd (Ii 10) (Nd (Ii 0) odX473 (Nd (Ii 1) (Nd (Ii 1) (Lf (Ii 9)) Em) (Lf (Ii 0)))) (Nd (Ii 0) odX474 (Nd (Ii 12) (Nd (Ii 1) (Lf (Ii 11)) Em) (Lf (Ii 10))))) odX202
def odX103 : PT AV := Nd Se (Nd (Ii 10) (Nd (Ii 0) odX472 (Nd (Ii 8) (Nd (Ii 1) (Lf (Ii 9)) Em) (Lf (Ii 0)))) (Nd (Ii 0) odX474 (Nd (Ii 12) (Nd (Ii 1) (Lf (Ii 11)) Em) (Lf (Ii 11))))) odX202
def odX102 : PT AV := Nd (.int .u64 (.ofNat 0)) odX186 odX186
def odX101 : PT AV := Nd (.int .u64 (.ofNat 0)) (Nd (.int .u64 (.ofNat 0)) odX326 odX330) odX186
def odX100 : PT AV := Nd .nilslice (Nd (Ii 0) odX325 (Nd (Ii 0) (Nd (Ii 1) (Lf (Ii 0)) (Lf (Ii 0))) (Nd (Ii 0) (Lf (Ii 0)) (Lf (Ii 7))))) odX178
def odX99 : PT AV := Nd .nilslice (Nd (Ii 0) odX325 (Nd (Ii 0) (Nd (Ii 1) (Lf (Ii 0)) (Lf (Ii 0))) (Nd (Ii 0) (Lf (Ii 6)) (Lf (Ii 7))))) odX178
def odX98 : PT AV := Nd .nilslice (Nd (Ii 0) (Nd (Ii 0) (Nd (Ii 1) (Lf (Ii 6)) (Lf (Ii 0))) (Nd (Ii 0) (Lf (Ii 0)) (Lf (Ii 7)))) odX325) odX178
def odX97 : PT AV := Nd (Ii 0) (Nd .nilslice odX267 odX295) (Nd (Ii 0) odX324 odX325)
def odX96 : PT AV := Nd .nilslice odX181 odX181
def odX95 : PT AV := Nd Se (Nd (Ii 10) (Nd (Ii 0) (Nd (Ii 0) (Nd (Ii 12) (Lf (Ii 0)) Em) (Nd (Ii 9) (Lf (Ii 9)) Em)) odX472) (Nd (Ii 0) (Nd (Ii 9) (Nd (Ii 0) (Lf (Ii 11)) Em) (Nd (Ii 1) (Lf (Ii 11)) Em)) (Nd (Ii 8) (Nd (Ii 0) (Lf (Ii 0)) Em) (Lf (Ii 0))))) odX192
def odX94 : PT AV := Nd Se (Nd (Ii 10) (Nd (Ii 0) (Nd (Ii 1) (Nd (Ii 12) (Lf (Ii 0)) Em) (Nd (Ii 0) (Lf (Ii 9)) Em)) (Nd (Ii 9) (Nd (Ii 0) (Lf (Ii 0)) Em) (Lf (Ii 8)))) (Nd (Ii 0) (Nd (Ii 0) (Nd (Ii 0) (Lf (Ii 11)) Em) (Nd (Ii 9) (Lf (Ii 11)) Em)) (Nd (Ii 8) (Nd (Ii 1) (Lf (Ii 0)) Em) (Lf (Ii 0))))) odX192
def odX93 : Blk := Ce (Nd (Ii 0) (Nd (Ii 0) (Nd (Ii 0) (Nd (Ii 0) (Nd .nilslice (Lf .nilslice) Em) (Lf (Ii 0))) (Nd .nilslice (Lf (Ii 0)) (Lf .nilslice))) (Nd (.int .u64 (.ofNat 0)) (Nd .nilslice (Lf (Ii 0)) (Lf .nilslice)) (Nd .nilslice (Lf (.int .u64 (.ofNat 0))) (Lf .nilslice)))) (Nd (Ii 0) (Nd (Ii 0) (Nd Se (Lf (Ii 10)) (Lf Se)) (Nd .nilslice (Lf (Ii 0)) (Lf .nilslice))) (Nd Se (Nd .nilslice (Lf (Ii 0)) (Lf .nilslice)) (Nd .nilslice (Lf (.str [100])) (Lf .nilslice))))) 32 false
def odX92 : PT AV := Nd (.int .u64 (.ofNat 0)) (Nd (.int .u64 (.ofNat 0)) odX282 odX330) (Nd (.int .u64 (.ofNat 0)) odX283 odX330)
def odX91 : PT AV := Nd .nilslice (Nd (Ii 0) (Nd (Ii 0) odX471 (Nd (Ii 0) (Lf (Ii 8)) (Lf (Ii 0)))) (Nd (Ii 0) (Nd (Ii 2) (Nd (Ii 7) (Lf (Ii 0)) Em) (Lf (Ii 0))) (Nd (Ii 0) (Lf (Ii 0)) (Lf (Ii 0))))) odX164
def odX90 : PT AV := Nd (Ii 0) (Nd .nilslice odX234 odX267) (Nd (Ii 0) (Nd (Ii 0) odX478 (Nd (Ii 0) (Lf (Ii 0)) (Lf (Ii 0)))) odX302)
def odX89 : PT AV := Nd (Ii 0) (Nd (Ii 0) (Nd Se (Nd (Ii 10) (Nd (Ii 0) (Lf (Ii 1)) Em) (Lf (Ii 0))) (Nd Se (Nd Se (Lf Se) Em) (Lf Se))) odX261) (Nd Se odX262 (Nd .nilslice (Nd (.str [98]) (Nd Se (Lf Se) Em) (Lf Se)) odX412))
def odX88 : PT AV := Nd Se (Nd (Ii 10) (Nd (Ii 0) (Nd (Ii 0) (Nd (Ii 8) (Lf (Ii 8)) Em) (Nd (Ii 0) (Lf (Ii 0)) Em)) odX392) (Nd (Ii 0) (Nd (Ii 9) (Nd (Ii 12) (Lf (Ii 0)) Em) (Nd (Ii 9) (Lf (Ii 0)) Em)) (Nd (Ii 9) (Nd (Ii 0) (Lf (Ii 11)) Em) (Nd (Ii 9) (Lf (Ii 11)) Em)))) odX184
def odX87 : PT AV := Nd (.int .u64 (.ofNat 0)) odX166 odX166
def odX86 : PT AV := Nd (.int .u64 (.ofNat 0)) odX165 odX166
def odX85 : PT AV := Nd (.int .u64 (.ofNat 0)) odX165 odX165
def odX84 : PT AV := Nd Se (Nd (Ii 10) (Nd (Ii 0) (Nd (Ii 1) (Nd (Ii 8) (Lf (Ii 1)) (Lf (Ii 9))) (Nd (Ii 0) (Lf (Ii 0)) Em)) (Nd (Ii 1) (Nd (Ii 12) (Lf (Ii 8)) Em) (Nd (Ii 0) (Lf (Ii 0)) Em))) (Nd (Ii 0) (Nd (Ii 0) (Nd (Ii 8) (Lf (Ii 8)) (Lf (Ii 11))) (Nd (Ii 1) (Lf (Ii 11)) Em)) odX383)) odX180
def odX83 : PT AV := Nd .nilslice (Nd (Ii 0) (Nd (Ii 0) odX479 (Nd (Ii 2) (Nd (Ii 0) (Lf (Ii 9)) Em) (Lf (Ii 0)))) (Nd (Ii 0) odX474 (Nd (Ii 0) (Nd (Ii 7) (Lf (Ii 0)) Em) (Lf (Ii 0))))) odX152
def odX82 : PT AV := Nd .nilslice (Nd (Ii 0) odX288 (Nd (Ii 0) odX481 (Nd (Ii 3) (Nd (Ii 0) (Lf (Ii 11)) Em) (Lf (Ii 0))))) odX152
def odX81 : PT AV := Nd .nilslice (Nd (Ii 0) odX288 (Nd (Ii 0) odX481 (Nd (Ii 3) (Nd (Ii 0) (Lf (Ii 11)) Em) (Lf (Ii 10))))) odX152
def odX80 : PT AV := Nd .nilslice (Nd (Ii 0) (Nd (Ii 0) (Nd (Ii 1) (Nd (Ii 0) (Lf (Ii 0)) Em) (Lf (Ii 10))) (Nd (Ii 3) (Nd (Ii 8) (Lf (Ii 11)) Em) (Lf (Ii 0)))) (Nd (Ii 0) odX469 (Nd (Ii 0) (Nd (Ii 9) (Lf (Ii 0)) Em) (Lf (Ii 0))))) odX152
def odX79 : PT AV := Nd (Ii 0) odX137 (Nd (Ii 0) odX287 odX288)
def odX78 : PT AV := Nd (Ii 0) odX137 (Nd (Ii 0) odX287 (Nd (Ii 0) odX474 odX475))
def odX77 : PT AV := Nd (.int .u64 (.ofNat 0)) odX153 odX153
def odX76 : PT AV := Nd (.int .u64 (.ofNat 0)) (Nd (.int .u64 (.ofNat 0)) odX224 odX284) (Nd (.int .u64 (.ofNat 0)) odX228 odX283)
def odX75 : PT AV := Nd .nilslice (Nd (Ii 0) (Nd (Ii 0) (Nd (Ii 0) (Nd (Ii 0) (Lf (Ii 0)) Em) (Nd (Ii 8) (Lf (Ii 11)) Em)) odX454) (Nd (Ii 0) (Nd (Ii 1) (Nd (Ii 0) (Lf (Ii 0)) Em) (Nd (Ii 9) (Lf (Ii 0)) Em)) (Nd (Ii 3) (Nd (Ii 0) (Lf (Ii 0)) Em) (Lf (Ii 0))))) odX122
def odX74 : PT AV := Nd .nilslice (Nd (Ii 0) (Nd (Ii 0) odX385 odX481) (Nd (Ii 0) odX366 odX481)) odX122
def odX73 : PT AV := Nd .nilslice (Nd (Ii 0) (Nd (Ii 0) (Nd (Ii 1) (Nd (Ii 0) (Lf (Ii 0)) Em) (Nd (Ii 0) (Lf (Ii 11)) Em)) odX454) (Nd (Ii 0) (Nd (Ii 0) (Nd (Ii 0) (Lf (Ii 0)) Em) (Nd (Ii 9) (Lf (Ii 0)) Em)) (Nd (Ii 3) (Nd (Ii 8) (Lf (Ii 0)) Em) (Lf (Ii 0))))) odX122
def odX72 : PT AV := Nd .nilslice odX163 (Nd .nilslice (Nd .nilslice odX331 (Nd .nilslice (Nd .nilslice (Lf .nilslice) Em) (Lf (Sn 4470 0 2 1)))) (Nd .nilslice odX331 (Nd (Sn 4179 0 2 1) (Nd .nilslice (Lf .nilslice) Em) (Lf .nilslice))))
def odX71 : PT AV := Nd .nilslice odX163 (Nd .nilslice (Nd .nilslice odX331 odX354) (Nd .nilslice odX331 odX355))
def odX70 : PT AV := Nd (Ii 0) odX114 (Nd (Ii 0) (Nd (Ii 0) odX393 odX474) (Nd (Ii 0) (Nd (Ii 0) (Nd (Ii 0) (Lf (Ii 0)) Em) (Nd (Ii 1) (Lf (Ii 0)) Em)) odX481))
def odX69 : PT AV := Nd (Ii 0) odX114 (Nd (Ii 0) (Nd (Ii 0) odX391 odX481) (Nd (Ii 0) odX384 odX481))
def odX68 : PT AV := Nd (.int .u64 (.ofNat 0)) odX134 odX134
def odX67 : PT AV := Nd .nilslice (Nd (Ii 0) (Nd (Ii 0) (Nd (Ii 0) (Nd (Ii 3) (Lf (Ii 10)) Em) (Nd (Ii 0) (Lf (Ii 0)) Em)) odX369) (Nd (Ii 0) (Nd (Ii 1) (Nd (Ii 0) (Lf (Ii 0)) Em) (Nd (Ii 8) (Lf (Ii 0)) Em)) (Nd (Ii 2) (Nd (Ii 0) (Lf (Ii 0)) Em) (Nd (Ii 9) (Lf (Ii 0)) Em)))) odX111
def odX66 : PT AV := Nd .nilslice (Nd (Ii 0) (Nd (Ii 0) (Nd (Ii 1) (Nd (Ii 0) (Lf (Ii 10)) Em) (Nd (Ii 0) (Lf (Ii 0)) Em)) (Nd (Ii 3) (Nd (Ii 0) (Lf (Ii 0)) Em) (Nd (Ii 8) (Lf (Ii 11)) Em))) (Nd (Ii 0) odX381 (Nd (Ii 0) (Nd (Ii 4) (Lf (Ii 0)) Em) (Nd (Ii 9) (Lf (Ii 0)) Em)))) odX111
def odX65 : PT AV := Nd (Ii 0) odX108 (Nd (Ii 0) odX231 odX232)
def odX64 : PT AV := Nd (Ii 0) odX108 (Nd (Ii 0) odX231 (Nd (Ii 0) odX383 odX383))
def odX63 : PT AV := Nd (Ii 0) (Nd (Ii 0) (Nd Se (Nd (Ii 10) (Nd (Ii 0) (Lf (Ii 1)) (Lf (Ii 10))) (Nd (Ii 0) (Lf (Ii 0)) Em)) odX457) (Nd .nilslice (Nd (Ii 0) (Nd (Ii 0) (Lf (Ii 1)) (Lf (Ii 0))) (Nd (Ii 0) (Lf (Ii 0)) Em)) odX306)) (Nd Se odX193 (Nd .nilslice (Nd (.str [99]) (Nd Se (Lf Se) (Lf (.str [100]))) (Nd Se (Lf Se) Em)) odX306))
def odX62 : PT AV := Nd (.int .u64 (.ofNat 0)) (Nd (.int .u64 (.ofNat 0)) (Nd (.int .u64 (.ofNat 0)) odX328 odX438) odX224) (Nd (.int .u64 (.ofNat 0)) odX201 odX222)
def odX61 : PT AV := Nd Se (Nd .nilslice (Nd (Ii 0) odX346 odX344) odX185) (Nd .nilslice (Nd (.str [97]) odX433 odX457) odX185)
def odX60 : PT AV := Nd .nilslice (Nd (Ii 0) (Nd (Ii 0) (Nd (Ii 1) (Nd (Ii 4) (Lf (Ii 12)) (Lf (Ii 15))) (Nd (Ii 0) (Lf (Ii 0)) Em)) (Nd (Ii 2) (Nd (Ii 0) (Lf (Ii 14)) Em) (Nd (Ii 0) (Lf (Ii 0)) Em))) (Nd (Ii 0) (Nd (Ii 0) (Nd (Ii 5) (Lf (Ii 13)) (Lf (Ii 0))) (Nd (Ii 10) (Lf (Ii 0)) Em)) (Nd (Ii 3) (Nd (Ii 0) (Lf (Ii 0)) Em) (Nd (Ii 11) (Lf (Ii 0)) Em)))) odX106
def odX59 : PT AV := Nd (Ii 0) (Nd .nilslice odX185 odX190) (Nd (Ii 0) (Nd (Ii 0) odX345 odX394) odX218)
def odX58 : PT AV := Nd (Ii 0) (Nd Se (Nd (Ii 10) odX322 (Nd (Ii 0) (Nd (Ii 12) (Lf (Ii 0)) (Lf (Ii 0))) (Nd (Ii 0) (Lf (Ii 10)) (Lf (Ii 11))))) odX269) (Nd .nilslice (Nd (Ii 0) odX323 odX324) odX175)
def odX57 : PT AV := Nd (Ii 0) odX138 (Nd .nilslice odX194 (Nd .nilslice odX295 (Nd .nilslice (Nd (Sn 10006 0 5 16) (Lf .nilslice) (Lf .nilslice)) odX549)))
def odX56 : PT AV := Nd (Ii 0) odX138 (Nd .nilslice odX194 (Nd .nilslice odX295 (Nd .nilslice odX447 odX549)))
def odX55 : PT AV := Nd (Ii 0) (Nd (Ii 0) odX181 (Nd (Ii 0) odX345 odX346)) (Nd .nilslice (Nd (Ii 0) odX346 odX346) odX185)
def odX54 : PT AV := Nd (Ii 0) odX115 (Nd (.int .u64 (.ofNat 0)) (Nd .nilslice odX390 odX331) odX169)
def odX53 : PT AV := Nd (Ii 0) odX115 (Nd (.int .u64 (.ofNat 0)) (Nd .nilslice (Nd (Ii 0) (Nd (Ii 0) (Lf (Ii 2)) Em) (Nd (Ii 0) (Lf (Ii 0)) Em)) odX331) odX169)
def odX52 : PT AV := Nd (Ii 0) odX115 (Nd (.int .u64 (.ofNat 0)) odX208 odX169)
def odX51 : PT AV := Nd (Ii 0) odX115 (Nd (.int .u64 (.ofNat 0)) odX207 odX169)
def odX50 : PT AV := Nd (Ii 0) odX115 (Nd (.int .u64 (.ofNat 0)) odX205 odX169)
def odX49 : PT AV := Nd Se odX99 (Nd .nilslice (Nd (.str [97]) odX370 odX441) odX178)
def odX48 : PT AV := Nd .nilslice (Nd (Ii 0) (Nd (Ii 0) (Nd (Ii 1) (Nd (Ii 4) (Lf (Ii 0)) (Lf (Ii 0))) (Nd (Ii 0) (Lf (Ii 12)) (Lf (Ii 15)))) (Nd (Ii 2) (Nd (Ii 0) (Lf (Ii 0)) (Lf (Ii 0))) (Nd (Ii 6) (Lf (Ii 14)) Em))) (Nd (Ii 0) (Nd (Ii 0) (Nd (Ii 5) (Lf (Ii 10)) (Lf (Ii 0))) (Nd (Ii 0) (Lf (Ii 13)) (Lf (Ii 0)))) (Nd (Ii 3) (Nd (Ii 0) (Lf (Ii 11)) (Lf (Ii 0))) (Nd (Ii 0) (Lf (Ii 0)) Em)))) odX96
def odX47 : PT AV := Nd (Ii 0) (Nd .nilslice odX178 odX181) (Nd (Ii 0) (Nd (Ii 0) odX324 odX346) odX199)
def odX46 : PT AV := Nd Se odX99 (Nd .nilslice (Nd (.str [97]) (Nd Se (Nd (.str [101,113]) (Lf (.str [101,113])) (Lf Se)) (Nd Se (Lf Se) (Lf (.str [102])))) odX441) odX178)
def odX45 : PT AV := Nd Se odX99 (Nd .nilslice (Nd (.str [97]) (Nd Se (Nd (.str [110,111,116]) (Lf (.str [110,111,116])) (Lf Se)) (Nd Se (Lf Se) (Lf (.str [102])))) odX441) odX178)
def odX44 : PT AV := Nd (Ii 0) odX97 (Nd .nilslice odX195 odX178)
def odX43 : PT AV := Nd (Ii 0) odX97 (Nd .nilslice odX195 (Nd .nilslice (Nd .nilslice (Nd (Sn 10003 0 1 1) (Lf (Sn 10004 0 1 1)) (Lf .nilslice)) odX549) odX295))
def odX42 : PT AV := Nd (Ii 0) odX97 (Nd .nilslice odX195 (Nd .nilslice (Nd .nilslice (Nd (Sn 10003 0 2 1) (Lf (Sn 10004 0 2 1)) (Lf .nilslice)) odX549) odX295))
def odX41 : Blk := Ce (Nd (Ii 0) (Nd (Ii 0) odX179 (Nd (.int .u64 (.ofNat 0)) (Nd .nilslice (Nd (Ii 0) (Lf (Ii 2)) (Lf (Ii 0))) odX549) odX229)) (Nd (Ii 0) odX198 (Nd Se (Nd .nilslice (Nd (Ii 0) (Lf (Ii 0)) (Lf (Ii 2))) odX549) odX305))) 64 false
def odX40 : Blk := Ce (Nd (Ii 0) (Nd (Ii 0) odX179 (Nd (.int .u64 (.ofNat 0)) (Nd .nilslice (Nd (Ii 0) (Lf (Ii 3)) (Lf (Ii 0))) odX549) odX229)) (Nd (Ii 0) odX198 (Nd Se (Nd .nilslice (Nd (Ii 0) (Lf (Ii 0)) (Lf (Ii 3))) odX549) odX305))) 64 false
def odX39 : Blk := Ce (Nd (Ii 0) (Nd (Ii 0) odX179 (Nd (.int .u64 (.ofNat 0)) (Nd .nilslice (Nd (Ii 0) (Lf (Ii 4)) (Lf (Ii 0))) odX549) odX229)) (Nd (Ii 0) odX198 (Nd Se (Nd .nilslice (Nd (Ii 0) (Lf (Ii 0)) (Lf (Ii 4))) odX549) odX305))) 64 false
def odX38 : Blk := Ce (Nd (Ii 0) (Nd (Ii 0) odX179 (Nd (.int .u64 (.ofNat 0)) (Nd .nilslice (Nd (Ii 0) (Lf (Ii 5)) (Lf (Ii 0))) odX549) odX229)) (Nd (Ii 0) odX198 (Nd Se (Nd .nilslice (Nd (Ii 0) (Lf (Ii 0)) (Lf (Ii 5))) odX549) odX305))) 64 false
def odX37 : Blk := Ce (Nd (Ii 0) (Nd (Ii 0) odX179 (Nd (.int .u64 (.ofNat 0)) (Nd .nilslice (Nd (Ii 0) (Lf (Ii 6)) (Lf (Ii 0))) odX549) odX229)) (Nd (Ii 0) odX198 (Nd Se (Nd .nilslice (Nd (Ii 0) (Lf (Ii 0)) (Lf (Ii 6))) odX549) odX305))) 64 false
def odX36 : Blk := Ce (Nd (Ii 0) (Nd (Ii 0) odX179 (Nd (.int .u64 (.ofNat 0)) (Nd .nilslice (Nd (Ii 0) (Lf (Ii 7)) (Lf (Ii 0))) odX549) odX229)) (Nd (Ii 0) odX198 (Nd Se (Nd .nilslice (Nd (Ii 0) (Lf (Ii 0)) (Lf (Ii 7))) odX549) odX305))) 64 false
def odX35 : Blk := Ce (Nd (Ii 0) (Nd (Ii 0) odX179 (Nd (.int .u64 (.ofNat 0)) (Nd .nilslice (Nd (Ii 0) (Lf (Ii 9)) (Lf (Ii 0))) odX549) odX229)) (Nd (Ii 0) odX198 (Nd Se (Nd .nilslice (Nd (Ii 0) (Lf (Ii 0)) (Lf (Ii 9))) odX549) odX305))) 64 false
def odX34 : PT AV := Nd .nilslice odX77 odX120
def odX33 : PT AV := Nd .nilslice odX77 odX119
def odX32 : PT AV := Nd .nilslice odX77 odX118
def odX31 : PT AV := Nd Se (Nd .nilslice (Nd (Ii 0) odX301 (Nd (Ii 0) (Nd (Ii 0) (Nd (Ii 0) (Lf (Ii 9)) Em) (Lf (Ii 8))) (Nd (Ii 0) (Lf (Ii 0)) (Lf (Ii 0))))) odX164) (Nd .nilslice (Nd (.str [97]) (Nd Se odX547 (Nd Se (Lf (.str [110,111,116])) (Lf Se))) (Nd Se (Nd (.str [110,111,116]) (Nd Se (Lf Se) Em) (Lf Se)) (Nd Se (Lf Se) (Lf Se)))) odX164)
def odX30 : PT AV := Nd Se odX81 (Nd .nilslice (Nd (.str [97]) (Nd Se (Nd Se (Nd Se (Lf Se) Em) (Lf (.str [101,113]))) (Nd (.str [101,113]) (Nd Se (Lf (.str [102])) Em) (Lf Se))) odX332) odX152)
def odX29 : PT AV := Nd Se odX81 (Nd .nilslice (Nd (.str [97]) (Nd Se odX452 (Nd (.str [97,110,100]) (Nd Se (Lf (.str [102])) Em) (Lf Se))) odX332) odX152)
def odX28 : PT AV := Nd (Ii 0) odX94 (Nd .nilslice odX161 odX121)
def odX27 : PT AV := Nd (Ii 0) odX94 (Nd .nilslice odX161 odX117)
def odX26 : PT AV := Nd (Ii 0) odX94 (Nd .nilslice odX161 odX116)
def odX25 : PT AV := Nd Se (Nd .nilslice (Nd (Ii 0) odX288 (Nd (Ii 0) odX481 (Nd (Ii 2) (Nd (Ii 0) (Lf (Ii 9)) Em) (Lf (Ii 8))))) odX152) (Nd .nilslice (Nd (.str [97]) (Nd Se (Nd Se (Nd Se (Lf Se) Em) (Lf (.str [110,111,116]))) (Nd (.str [110,111,116]) (Nd Se (Lf (.str [102])) Em) (Lf Se))) (Nd Se (Nd (.str [102]) (Nd Se (Lf Se) Em) (Lf Se)) (Nd Se (Nd (.str [102]) (Lf Se) Em) (Lf Se)))) odX152)
def odX24 : PT AV := Nd (.int .u64 (.ofNat 0)) odX98 (Nd .nilslice odX102 (Nd .nilslice odX295 (Nd .nilslice odX449 odX549)))
def odX23 : PT AV := Nd (.int .u64 (.ofNat 0)) odX98 (Nd .nilslice odX102 (Nd .nilslice odX295 (Nd .nilslice (Nd (Sn 10005 0 7 16) (Lf .nilslice) (Lf .nilslice)) odX549)))
def odX22 : PT AV := Nd (Ii 0) odX79 (Nd .nilslice odX173 odX152)
def odX21 : PT AV := Nd (Ii 0) odX79 (Nd .nilslice odX173 (Nd .nilslice (Nd .nilslice (Nd .nilslice (Nd .nilslice (Lf .nilslice) Em) (Lf (Sn 4436 0 2 1))) (Nd (Sn 4156 0 2 1) (Nd .nilslice (Lf .nilslice) Em) (Lf .nilslice))) odX234))
def odX20 : PT AV := Nd (Ii 0) odX79 (Nd .nilslice odX173 (Nd .nilslice (Nd .nilslice odX354 odX355) odX234))
def odX19 : PT AV := Nd (Ii 0) odX78 (Nd .nilslice odX173 (Nd .nilslice (Nd .nilslice (Nd .nilslice (Nd .nilslice (Lf .nilslice) Em) (Lf (Sn 10003 0 1 1))) odX356) odX234))
def odX18 : PT AV := Nd Se odX74 (Nd .nilslice (Nd (.str [97]) (Nd Se odX439 (Nd (.str [102]) (Nd Se (Lf Se) Em) (Lf (.str [111,114])))) (Nd Se odX440 (Nd (.str [111,114]) (Nd Se (Lf Se) Em) (Lf Se)))) odX122)
def odX17 : PT AV := Nd Se odX74 (Nd .nilslice (Nd (.str [97]) (Nd Se (Nd Se (Nd Se (Lf Se) Em) (Nd (.str [102]) (Lf (.str [102])) Em)) odX452) (Nd Se (Nd (.str [102]) (Nd Se (Lf Se) Em) (Nd Se (Lf Se) Em)) odX456)) odX122)
def odX16 : PT AV := Nd Se odX74 (Nd .nilslice (Nd (.str [97]) (Nd Se odX439 (Nd (.str [102]) (Nd Se (Lf Se) Em) (Lf (.str [97,110,100])))) (Nd Se odX440 odX456)) odX122)
def odX15 : PT AV := Nd (Ii 0) odX70 odX72
def odX14 : PT AV := Nd (Ii 0) odX70 odX71
def odX13 : PT AV := Nd (Ii 0) odX69 odX71
def odX12 : PT AV := Nd Se (Nd .nilslice (Nd (Ii 0) odX232 (Nd (Ii 0) odX385 odX366)) odX111) (Nd .nilslice (Nd (.str [97]) (Nd Se (Nd Se (Nd (.str [101,113]) (Lf (.str [101,113])) Em) (Nd Se (Lf Se) Em)) odX439) (Nd Se odX395 odX395)) odX111)
def odX11 : PT AV := Nd (Ii 0) odX65 (Nd .nilslice odX151 odX111)
def odX10 : PT AV := Nd (Ii 0) odX64 (Nd .nilslice odX151 (Nd .nilslice (Nd .nilslice (Nd .nilslice (Nd (Sn 10003 0 2 1) (Lf (Sn 10004 0 2 1)) Em) (Nd .nilslice (Lf .nilslice) Em)) odX331) odX197))
def odX9 : PT AV := Nd Se (Nd .nilslice (Nd (Ii 0) odX217 (Nd (Ii 0) (Nd (Ii 0) (Nd (Ii 0) (Lf (Ii 0)) (Lf (Ii 15))) (Nd (Ii 0) (Lf (Ii 14)) Em)) odX394)) odX106) (Nd .nilslice (Nd (.str [97]) (Nd Se (Nd Se (Nd (.str [108,116]) (Lf Se) (Lf (.str [102]))) (Nd Se (Lf Se) Em)) (Nd Se (Nd Se (Lf (.str [111,114])) Em) (Nd Se (Lf Se) Em))) (Nd Se (Nd Se (Nd (.str [111,114]) (Lf (.str [108,116])) (Lf Se)) (Nd Se (Lf Se) Em)) odX542)) odX106)
def odX8 : PT AV := Nd (Ii 0) odX59 (Nd .nilslice odX136 odX106)
def odX7 : PT AV := Nd (Ii 0) (Nd (Ii 0) odX139 (Nd .nilslice odX194 (Nd .nilslice odX295 (Nd .nilslice (Nd (Sn 4218 0 6 16) (Lf .nilslice) (Lf .nilslice)) odX549)))) odX49
def odX6 : PT AV := Nd (Ii 0) (Nd (Ii 0) odX139 (Nd .nilslice odX194 odX175)) odX49
def odX5 : PT AV := Nd (.int .u64 (.ofNat 0)) (Nd .nilslice (Nd (Ii 0) (Nd (Ii 0) (Nd (Ii 1) (Nd (Ii 0) (Lf (Ii 8)) Em) (Nd (Ii 0) (Lf (Ii 0)) Em)) (Nd (Ii 0) (Nd (Ii 5) (Lf (Ii 0)) Em) (Nd (Ii 0) (Lf (Ii 9)) Em))) (Nd (Ii 0) odX381 (Nd (Ii 0) (Nd (Ii 0) (Lf (Ii 0)) Em) (Nd (Ii 7) (Lf (Ii 0)) Em)))) odX111) (Nd .nilslice (Nd (.int .u64 (.ofNat 0)) (Nd (.int .u64 (.ofNat 0)) odX224 odX225) (Nd (.int .u64 (.ofNat 0)) odX228 odX227)) odX111)
def odX4 : PT AV := Nd (.int .u64 (.ofNat 0)) (Nd .nilslice (Nd (Ii 0) (Nd (Ii 0) (Nd (Ii 1) (Nd (Ii 0) (Lf (Ii 8)) (Lf (Ii 11))) (Nd (Ii 0) (Lf (Ii 0)) Em)) (Nd (Ii 3) (Nd (Ii 0) (Lf (Ii 10)) Em) (Nd (Ii 0) (Lf (Ii 0)) Em))) (Nd (Ii 0) (Nd (Ii 2) (Nd (Ii 0) (Lf (Ii 9)) (Lf (Ii 0))) (Nd (Ii 0) (Lf (Ii 0)) Em)) (Nd (Ii 0) (Nd (Ii 6) (Lf (Ii 0)) Em) (Nd (Ii 0) (Lf (Ii 0)) Em)))) odX106) (Nd .nilslice (Nd (.int .u64 (.ofNat 0)) (Nd (.int .u64 (.ofNat 0)) (Nd (.int .u64 (.ofNat 1)) odX329 odX438) odX228) (Nd (.int .u64 (.ofNat 0)) odX201 odX225)) odX106)
def odX3 : PT AV := Nd (Ii 0) odX44 (Nd (.int .u64 (.ofNat 0)) odX98 (Nd .nilslice odX102 odX176))
def odX2 : PT AV := Nd (Ii 0) odX44 (Nd (.int .u64 (.ofNat 0)) odX98 (Nd .nilslice odX101 odX176))
def odX1 : PT AV := Nd (Ii 0) odX22 (Nd (.int .u64 (.ofNat 0)) (Nd .nilslice (Nd (Ii 0) (Nd (Ii 0) (Nd (Ii 1) (Nd (Ii 0) (Lf (Ii 0)) Em) (Lf (Ii 6))) odX476) (Nd (Ii 0) (Nd (Ii 0) (Nd (Ii 2) (Lf (Ii 0)) Em) (Lf (Ii 0))) odX481)) odX152) (Nd .nilslice (Nd (.int .u64 (.ofNat 0)) (Nd (.int .u64 (.ofNat 0)) odX281 odX284) odX166) odX152))
def odX0 : PT AV := Nd (Ii 0) (Nd (Ii 0) (Nd (Ii 0) odX114 (Nd (Ii 0) (Nd (Ii 0) odX393 odX481) odX264)) (Nd .nilslice odX163 odX122)) (Nd (.int .u64 (.ofNat 0)) (Nd .nilslice (Nd (Ii 0) (Nd (Ii 0) (Nd (Ii 1) (Nd (Ii 0) (Lf (Ii 0)) Em) (Nd (Ii 0) (Lf (Ii 7)) Em)) (Nd (Ii 0) (Nd (Ii 0) (Lf (Ii 0)) Em) (Lf (Ii 6)))) (Nd (Ii 0) (Nd (Ii 0) (Nd (Ii 4) (Lf (Ii 0)) Em) (Nd (Ii 0) (Lf (Ii 0)) Em)) odX481)) odX122) (Nd .nilslice (Nd (.int .u64 (.ofNat 0)) odX153 (Nd (.int .u64 (.ofNat 0)) odX225 odX284)) odX122))
def odL0 : List (Nat × Blk) := [(6013, (.map [])), (6015, (Ce (Nd (Sn 6021 0 1 1) (Nd .nilslice (Lf (.map 6014)) Em) (Lf (.map 6013))) 4))]
def odL1 : List (Nat × Blk) := [(11004, (Ce (Nd (Sn 11003 0 1 1) (Nd .nilslice (Lf (.map 6014)) Em) (Lf (.map 11001))) 4))]
def odL2 : List (Nat × Blk) := [(2060, odX319), (2118, (Ce (Nd (Ii 1) (Nd (Ii 12) (Nd Se (Nd Ff (Lf .nilslice) Em) (Lf Se)) odX365) (Nd (.str [98]) odX493 (Nd .nilslice (Lf (Ii 13)) (Lf (Sn 2106 0 1 9))))) 18 false)), (2219, odX319), (2240, (Ce (Nd (Ii 2) odX511 odX402) 9 false)), (2281, (Ce (Nd (Ii 1) (Nd (Ii 0) (Nd Se odX339 odX467) odX293) (Nd (.str [97]) (Nd .nilslice odX432 (Nd Se (Lf Se) (Lf (Ii 119)))) odX273)) 36 false))]
def odL3 : List (Nat × Blk) := [(2061, (Ce (Lf (Sl 2060 0 1 1 7)) 1)), (2220, (Ce (Lf (Sl 2219 0 1 1 7)) 1)), (2235, odX321), (2236, (Ce (Lf (Sl 2235 0 1 1 7)) 1)), (2275, odX304), (2277, (Ce (Lf (Sl 2275 0 1 1 7)) 1)), (2282, (Ce (Nd Se (Lf (Sn 2281 0 4 9)) Em) 2))]
def odL4 : List (Nat × Blk) := [(2085, odX320), (2086, (Ce (Lf (Sl 2085 0 1 1 7)) 1))]
def odL5 : List (Nat × Blk) := [(2100, odX304), (2102, (Ce (Lf (Sl 2100 0 1 1 7)) 1)), (2174, odX304), (2176, (Ce (Lf (Sl 2174 0 1 1 7)) 1))]
def odL6 : List (Nat × Blk) := [(2106, (Ce (Nd (Ii 2) odX533 odX410) 9 false)), (2156, odX255), (2180, (Ce (Nd (Ii 2) odX522 odX406) 9 false)), (2192, (Ce (Nd (Ii 1) (Nd (Ii 45) odX501 odX361) (Nd (.str [99]) odX492 (Nd .nilslice (Lf (Ii 46)) (Lf (Sn 2156 0 1 9))))) 18 false)), (2253, odX244)]
def odL7 : List (Nat × Blk) := [(2146, odX319), (2147, (Ce (Lf (Sl 2146 0 1 1 7)) 1))]
def odL8 : List (Nat × Blk) := [(2060, odX320), (2156, odX254), (2192, (Ce (Nd (Ii 1) (Nd (Ii 46) odX501 odX361) (Nd (.str [99]) odX492 (Nd .nilslice (Lf (Ii 47)) (Lf (Sn 2156 0 1 9))))) 18 false)), (2219, odX320), (2240, (Ce (Nd (Ii 2) odX510 odX402) 9 false)), (2281, (Ce (Nd (Ii 1) (Nd (Ii 0) (Nd Se odX339 odX466) odX293) (Nd (.str [97]) (Nd .nilslice odX432 (Nd Se (Lf Se) (Lf (Ii 121)))) odX273)) 36 false))]
def odL9 : List (Nat × Blk) := [(2106, (Ce (Nd (Ii 2) odX532 odX410) 9 false)), (2118, (Ce (Nd (Ii 1) (Nd (Ii 13) (Nd Se (Nd Ff (Lf .nilslice) Em) (Lf Se)) odX365) (Nd (.str [98]) odX493 (Nd .nilslice (Lf (Ii 14)) (Lf (Sn 2106 0 1 9))))) 18 false)), (2180, (Ce (Nd (Ii 2) odX521 odX406) 9 false)), (2253, odX243)]
def odL10 : List (Nat × Blk) := [(2076, odX158), (2251, odX158)]
def odL11 : List (Nat × Blk) := [(2077, (Ce (Lf (Sn 2076 0 3 7)) 1)), (2252, (Ce (Lf (Sn 2251 0 3 7)) 1)), (2267, odX321), (2268, (Ce (Lf (Sl 2267 0 1 1 7)) 1)), (2307, odX304), (2309, (Ce (Lf (Sl 2307 0 1 1 7)) 1)), (2314, (Ce (Nd Se (Lf (Sn 2313 0 4 9)) Em) 2))]
def odL12 : List (Nat × Blk) := [(2101, odX320), (2102, (Ce (Lf (Sl 2101 0 1 1 7)) 1))]
def odL13 : List (Nat × Blk) := [(2116, odX304), (2118, (Ce (Lf (Sl 2116 0 1 1 7)) 1)), (2190, odX304), (2192, (Ce (Lf (Sl 2190 0 1 1 7)) 1))]
def odL14 : List (Nat × Blk) := [(2122, (Ce (Nd (Ii 2) odX531 odX408) 9 false)), (2172, odX253), (2196, (Ce (Nd (Ii 2) odX520 odX404) 9 false)), (2208, (Ce (Nd (Ii 1) (Nd (Ii 47) odX499 odX359) (Nd (.str [99]) odX492 (Nd .nilslice (Lf (Ii 48)) (Lf (Sn 2172 0 1 9))))) 18 false)), (2285, odX242)]
def odL15 : List (Nat × Blk) := [(2134, (Ce (Nd (Ii 1) (Nd (Ii 14) (Nd Se (Nd Ff (Lf .nilslice) Em) (Lf Se)) odX363) (Nd (.str [98]) odX493 (Nd .nilslice (Lf (Ii 15)) (Lf (Sn 2122 0 1 9))))) 18 false)), (2272, (Ce (Nd (Ii 2) odX509 odX400) 9 false)), (2313, (Ce (Nd (Ii 1) (Nd (Ii 0) (Nd Se odX337 odX465) odX291) (Nd (.str [97]) (Nd .nilslice odX430 (Nd Se (Lf Se) (Lf (Ii 123)))) odX271)) 36 false))]
def odL16 : List (Nat × Blk) := [(2162, odX319), (2163, (Ce (Lf (Sl 2162 0 1 1 7)) 1))]
def odL17 : List (Nat × Blk) := [(2068, odX188), (2164, odX251), (2200, (Ce (Nd (Ii 1) (Nd (Ii 49) odX500 odX360) (Nd (.str [99]) odX492 (Nd .nilslice (Lf (Ii 50)) (Lf (Sn 2164 0 1 9))))) 18 false)), (2235, odX188), (2256, (Ce (Nd (Ii 2) odX507 odX401) 9 false)), (2297, (Ce (Nd (Ii 1) (Nd (Ii 0) (Nd Se odX338 odX463) odX292) (Nd (.str [97]) (Nd .nilslice odX431 (Nd Se (Lf Se) (Lf (Ii 127)))) odX272)) 36 false))]
def odL18 : List (Nat × Blk) := [(2069, (Ce (Lf (Sn 2068 0 2 7)) 1)), (2236, (Ce (Lf (Sn 2235 0 2 7)) 1)), (2251, odX321), (2252, (Ce (Lf (Sl 2251 0 1 1 7)) 1)), (2291, odX304), (2293, (Ce (Lf (Sl 2291 0 1 1 7)) 1)), (2298, (Ce (Nd Se (Lf (Sn 2297 0 4 9)) Em) 2))]
def odL19 : List (Nat × Blk) := [(2093, odX320), (2094, (Ce (Lf (Sl 2093 0 1 1 7)) 1))]
def odL20 : List (Nat × Blk) := [(2108, odX304), (2110, (Ce (Lf (Sl 2108 0 1 1 7)) 1)), (2182, odX304), (2184, (Ce (Lf (Sl 2182 0 1 1 7)) 1))]
def odL21 : List (Nat × Blk) := [(2114, (Ce (Nd (Ii 2) odX529 odX409) 9 false)), (2126, (Ce (Nd (Ii 1) (Nd (Ii 16) (Nd Se (Nd Ff (Lf .nilslice) Em) (Lf Se)) odX364) (Nd (.str [98]) odX493 (Nd .nilslice (Lf (Ii 17)) (Lf (Sn 2114 0 1 9))))) 18 false)), (2188, (Ce (Nd (Ii 2) odX518 odX405) 9 false)), (2269, odX240)]
def odL22 : List (Nat × Blk) := [(2154, odX319), (2155, (Ce (Lf (Sl 2154 0 1 1 7)) 1))]
def odL23 : List (Nat × Blk) := [(2076, odX156), (2172, odX247), (2208, (Ce (Nd (Ii 1) (Nd (Ii 55) odX499 odX359) (Nd (.str [99]) odX492 (Nd .nilslice (Lf (Ii 56)) (Lf (Sn 2172 0 1 9))))) 18 false)), (2251, odX156), (2272, (Ce (Nd (Ii 2) odX503 odX400) 9 false)), (2313, (Ce (Nd (Ii 1) (Nd (Ii 0) (Nd Se odX337 odX459) odX291) (Nd (.str [97]) (Nd .nilslice odX430 (Nd Se (Lf Se) (Lf (Ii 139)))) odX271)) 36 false))]
def odL24 : List (Nat × Blk) := [(2122, (Ce (Nd (Ii 2) odX525 odX408) 9 false)), (2134, (Ce (Nd (Ii 1) (Nd (Ii 22) (Nd Se (Nd Ff (Lf .nilslice) Em) (Lf Se)) odX363) (Nd (.str [98]) odX493 (Nd .nilslice (Lf (Ii 23)) (Lf (Sn 2122 0 1 9))))) 18 false)), (2196, (Ce (Nd (Ii 2) odX514 odX404) 9 false)), (2285, odX236)]
def odL25 : List (Nat × Blk) := [(2102, odX157), (2105, (Ce (Nd (Ii 6) odX266 (Nd .nilslice (Nd (Ii 0) (Nd Se (Lf .nilslice) Em) (Nd Ff (Lf (Sl 2103 0 1 1 1)) Em)) odX487)) 21 false)), (2106, (Ce (Lf (Sn 2105 0 3 7)) 1)), (2130, odX320), (2131, (Ce (Lf (Sl 2130 0 1 1 7)) 1)), (2163, (Ce (Nd (Ii 1) (Nd (Ii 25) (Nd Se (Nd Ff (Lf .nilslice) Em) (Lf Se)) (Nd .nilslice (Nd (Ii 5) (Lf .nilslice) Em) (Lf (Sl 2131 0 1 1 1)))) (Nd (.str [98]) odX493 (Nd .nilslice (Lf (Ii 26)) (Lf (Sn 2151 0 1 9))))) 18 false)), (2306, odX157), (2307, (Ce (Lf (Sn 2306 0 3 7)) 1)), (2309, (Ce (Nd (Ii 6) odX266 (Nd .nilslice (Nd (Ii 0) (Nd Se (Lf .nilslice) Em) (Nd Ff (Lf (Sl 2307 0 1 1 1)) Em)) odX487)) 21 false)), (2310, (Ce (Lf (Sn 2309 0 3 7)) 1)), (2325, odX321), (2326, (Ce (Lf (Sl 2325 0 1 1 7)) 1)), (2330, (Ce (Nd (Ii 2) odX502 (Nd Se (Nd (Sl 2326 0 1 1 1) (Lf .nilslice) Em) (Lf .nilslice))) 9 false)), (2365, odX304), (2367, (Ce (Lf (Sl 2365 0 1 1 7)) 1)), (2371, (Ce (Nd (Ii 1) (Nd (Ii 0) (Nd Se (Nd Ff (Nd (Sn 2237 0 2 9) (Lf (Sl 2367 0 1 1 1)) Em) (Lf (Sn 2330 0 1 9))) odX458) (Nd .nilslice odX451 (Nd (Sl 2106 0 1 1 1) (Lf Se) (Lf Se)))) (Nd (.str [97]) (Nd .nilslice (Nd .nilslice (Nd Tt (Lf .nilslice) Em) (Lf (Sn 2343 0 1 9))) (Nd Se (Lf Se) (Lf (Ii 145)))) (Nd .nilslice odX489 (Nd (Sn 2163 0 2 9) (Lf (Sl 2310 0 1 1 1)) (Lf Se))))) 36 false)), (2372, (Ce (Nd Se (Lf (Sn 2371 0 4 9)) Em) 2))]
def odL26 : List (Nat × Blk) := [(2145, odX304), (2147, (Ce (Lf (Sl 2145 0 1 1 7)) 1)), (2151, (Ce (Nd (Ii 2) odX524 (Nd Se (Nd (Sl 2147 0 1 1 1) (Lf .nilslice) Em) (Lf .nilslice))) 9 false)), (2191, odX319), (2192, (Ce (Lf (Sl 2191 0 1 1 7)) 1)), (2201, odX246), (2219, odX304), (2221, (Ce (Lf (Sl 2219 0 1 1 7)) 1)), (2225, (Ce (Nd (Ii 2) odX513 (Nd Se (Nd (Sl 2221 0 1 1 1) (Lf .nilslice) Em) (Lf .nilslice))) 9 false)), (2237, (Ce (Nd (Ii 1) (Nd (Ii 58) (Nd Se (Nd Ff (Lf (Sn 2225 0 1 9)) Em) (Lf Se)) (Nd .nilslice (Nd (Ii 5) (Lf .nilslice) Em) (Lf (Sl 2192 0 1 1 1)))) (Nd (.str [99]) odX492 (Nd .nilslice (Lf (Ii 59)) (Lf (Sn 2201 0 1 9))))) 18 false)), (2343, odX235)]
def odL27 : List (Nat × Blk) := [(2060, odX321), (2219, odX321), (2240, (Ce (Nd (Ii 2) odX512 odX402) 9 false)), (2281, (Ce (Nd (Ii 1) (Nd (Ii 0) (Nd Se odX339 odX468) odX293) (Nd (.str [97]) (Nd .nilslice odX432 (Nd Se (Lf Se) (Lf (Ii 113)))) odX273)) 36 false))]
def odL28 : List (Nat × Blk) := [(2106, (Ce (Nd (Ii 2) odX534 odX410) 9 false)), (2180, (Ce (Nd (Ii 2) odX523 odX406) 9 false)), (2253, odX245)]
def odL29 : List (Nat × Blk) := [(2118, (Ce (Nd (Ii 1) (Nd (Ii 9) (Nd Se (Nd Ff (Lf .nilslice) Em) (Lf Se)) odX365) (Nd (.str [98]) odX493 (Nd .nilslice (Lf (Ii 10)) (Lf (Sn 2106 0 1 9))))) 18 false))]
def odL30 : List (Nat × Blk) := [(2156, odX256), (2192, (Ce (Nd (Ii 1) (Nd (Ii 42) odX501 odX361) (Nd (.str [99]) odX492 (Nd .nilslice (Lf (Ii 43)) (Lf (Sn 2156 0 1 9))))) 18 false))]
def odL31 : List (Nat × Blk) := [(2076, odX159), (2251, odX159)]
def odL32 : List (Nat × Blk) := [(2068, odX189), (2235, odX189), (2256, (Ce (Nd (Ii 2) odX510 odX401) 9 false)), (2297, (Ce (Nd (Ii 1) (Nd (Ii 0) (Nd Se odX338 odX466) odX292) (Nd (.str [97]) (Nd .nilslice odX431 (Nd Se (Lf Se) (Lf (Ii 121)))) odX272)) 36 false))]
def odL33 : List (Nat × Blk) := [(2114, (Ce (Nd (Ii 2) odX532 odX409) 9 false)), (2188, (Ce (Nd (Ii 2) odX521 odX405) 9 false)), (2269, odX243)]
def odL34 : List (Nat × Blk) := [(2126, (Ce (Nd (Ii 1) (Nd (Ii 13) (Nd Se (Nd Ff (Lf .nilslice) Em) (Lf Se)) odX364) (Nd (.str [98]) odX493 (Nd .nilslice (Lf (Ii 14)) (Lf (Sn 2114 0 1 9))))) 18 false))]
def odL35 : List (Nat × Blk) := [(2164, odX254), (2200, (Ce (Nd (Ii 1) (Nd (Ii 46) odX500 odX360) (Nd (.str [99]) odX492 (Nd .nilslice (Lf (Ii 47)) (Lf (Sn 2164 0 1 9))))) 18 false))]
def odL36 : List (Nat × Blk) := [(2085, odX304), (2087, (Ce (Lf (Sl 2085 0 1 1 7)) 1)), (2273, odX304), (2275, (Ce (Lf (Sl 2273 0 1 1 7)) 1))]
def odL37 : List (Nat × Blk) := [(2089, (Ce (Nd (Ii 6) odX265 (Nd .nilslice (Nd (Ii 0) (Nd Se (Lf .nilslice) Em) (Nd Ff (Lf (Sl 2087 0 1 1 1)) Em)) odX487)) 21 false)), (2277, (Ce (Nd (Ii 6) odX265 (Nd .nilslice (Nd (Ii 0) (Nd Se (Lf .nilslice) Em) (Nd Ff (Lf (Sl 2275 0 1 1 1)) Em)) odX487)) 21 false))]
def odL38 : List (Nat × Blk) := [(2090, (Ce (Lf (Sn 2089 0 3 7)) 1)), (2278, (Ce (Lf (Sn 2277 0 3 7)) 1)), (2293, odX321), (2294, (Ce (Lf (Sl 2293 0 1 1 7)) 1)), (2333, odX304), (2335, (Ce (Lf (Sl 2333 0 1 1 7)) 1)), (2340, (Ce (Nd Se (Lf (Sn 2339 0 4 9)) Em) 2))]
def odL39 : List (Nat × Blk) := [(2114, odX320), (2115, (Ce (Lf (Sl 2114 0 1 1 7)) 1))]
def odL40 : List (Nat × Blk) := [(2129, odX304), (2131, (Ce (Lf (Sl 2129 0 1 1 7)) 1)), (2203, odX304), (2205, (Ce (Lf (Sl 2203 0 1 1 7)) 1))]
def odL41 : List (Nat × Blk) := [(2135, (Ce (Nd (Ii 2) odX526 odX407) 9 false)), (2147, (Ce (Nd (Ii 1) (Nd (Ii 21) (Nd Se (Nd Ff (Lf .nilslice) Em) (Lf Se)) odX362) (Nd (.str [98]) odX493 (Nd .nilslice (Lf (Ii 22)) (Lf (Sn 2135 0 1 9))))) 18 false)), (2209, (Ce (Nd (Ii 2) odX515 odX403) 9 false)), (2311, odX237)]
def odL42 : List (Nat × Blk) := [(2175, odX319), (2176, (Ce (Lf (Sl 2175 0 1 1 7)) 1))]
def odL43 : List (Nat × Blk) := [(2185, odX248), (2221, (Ce (Nd (Ii 1) (Nd (Ii 54) odX498 odX358) (Nd (.str [99]) odX492 (Nd .nilslice (Lf (Ii 55)) (Lf (Sn 2185 0 1 9))))) 18 false)), (2298, (Ce (Nd (Ii 2) odX504 odX399) 9 false)), (2339, (Ce (Nd (Ii 1) (Nd (Ii 0) (Nd Se odX336 odX460) odX290) (Nd (.str [97]) (Nd .nilslice odX429 (Nd Se (Lf Se) (Lf (Ii 137)))) odX270)) 36 false))]
def odL44 : List (Nat × Blk) := [(2089, (Ce (Nd (Ii 6) odX266 (Nd .nilslice (Nd (Ii 0) (Nd Se (Lf .nilslice) Em) (Nd Tt (Lf (Sl 2087 0 1 1 1)) Em)) odX487)) 21 false)), (2147, (Ce (Nd (Ii 1) (Nd (Ii 19) (Nd Se (Nd Ff (Lf .nilslice) Em) (Lf Se)) odX362) (Nd (.str [98]) odX493 (Nd .nilslice (Lf (Ii 20)) (Lf (Sn 2135 0 1 9))))) 18 false)), (2277, (Ce (Nd (Ii 6) odX266 (Nd .nilslice (Nd (Ii 0) (Nd Se (Lf .nilslice) Em) (Nd Tt (Lf (Sl 2275 0 1 1 1)) Em)) odX487)) 21 false)), (2298, (Ce (Nd (Ii 2) odX505 odX399) 9 false)), (2339, (Ce (Nd (Ii 1) (Nd (Ii 0) (Nd Se odX336 odX461) odX290) (Nd (.str [97]) (Nd .nilslice odX429 (Nd Se (Lf Se) (Lf (Ii 133)))) odX270)) 36 false))]
def odL45 : List (Nat × Blk) := [(2135, (Ce (Nd (Ii 2) odX527 odX407) 9 false)), (2185, odX249), (2209, (Ce (Nd (Ii 2) odX516 odX403) 9 false)), (2221, (Ce (Nd (Ii 1) (Nd (Ii 52) odX498 odX358) (Nd (.str [99]) odX492 (Nd .nilslice (Lf (Ii 53)) (Lf (Sn 2185 0 1 9))))) 18 false)), (2311, odX238)]
def odL46 : List (Nat × Blk) := [(2081, odX304), (2083, (Ce (Lf (Sl 2081 0 1 1 7)) 1)), (2089, (Ce (Nd (Ii 6) (Nd Se odX351 (Nd Ff (Nd .nilslice (Lf Se) Em) (Lf (Sl 2083 0 1 1 1)))) odX260) 21 false)), (2269, odX304), (2271, (Ce (Lf (Sl 2269 0 1 1 7)) 1)), (2277, (Ce (Nd (Ii 6) (Nd Se odX351 (Nd Ff (Nd .nilslice (Lf Se) Em) (Lf (Sl 2271 0 1 1 1)))) odX260) 21 false))]
def odL47 : List (Nat × Blk) := [(2089, odX304), (2091, (Ce (Lf (Sl 2089 0 1 1 7)) 1)), (2098, odX304), (2100, (Ce (Lf (Sl 2098 0 1 1 7)) 1)), (2102, (Ce (Nd (Ii 6) (Nd Se odX367 (Nd Ff (Nd .nilslice (Lf Se) Em) (Lf (Sl 2091 0 1 1 1)))) (Nd .nilslice (Nd (Ii 0) (Nd Se (Lf .nilslice) Em) (Nd Ff (Lf (Sl 2100 0 1 1 1)) Em)) odX487)) 21 false)), (2188, odX319), (2189, (Ce (Lf (Sl 2188 0 1 1 7)) 1)), (2198, odX250), (2234, (Ce (Nd (Ii 1) (Nd (Ii 51) (Nd Se (Nd Ff (Lf (Sn 2222 0 1 9)) Em) (Lf Se)) (Nd .nilslice (Nd (Ii 5) (Lf .nilslice) Em) (Lf (Sl 2189 0 1 1 1)))) (Nd (.str [99]) odX492 (Nd .nilslice (Lf (Ii 52)) (Lf (Sn 2198 0 1 9))))) 18 false)), (2290, odX304), (2292, (Ce (Lf (Sl 2290 0 1 1 7)) 1)), (2299, odX304), (2301, (Ce (Lf (Sl 2299 0 1 1 7)) 1)), (2303, (Ce (Nd (Ii 6) (Nd Se odX367 (Nd Ff (Nd .nilslice (Lf Se) Em) (Lf (Sl 2292 0 1 1 1)))) (Nd .nilslice (Nd (Ii 0) (Nd Se (Lf .nilslice) Em) (Nd Ff (Lf (Sl 2301 0 1 1 1)) Em)) odX487)) 21 false)), (2304, (Ce (Lf (Sn 2303 0 3 7)) 1)), (2319, odX321), (2320, (Ce (Lf (Sl 2319 0 1 1 7)) 1)), (2324, (Ce (Nd (Ii 2) odX506 (Nd Se (Nd (Sl 2320 0 1 1 1) (Lf .nilslice) Em) (Lf .nilslice))) 9 false)), (2359, odX304), (2361, (Ce (Lf (Sl 2359 0 1 1 7)) 1)), (2365, (Ce (Nd (Ii 1) (Nd (Ii 0) (Nd Se (Nd Ff (Nd (Sn 2234 0 2 9) (Lf (Sl 2361 0 1 1 1)) Em) (Lf (Sn 2324 0 1 9))) odX462) (Nd .nilslice odX451 (Nd (Sl 2103 0 1 1 1) (Lf Se) (Lf Se)))) (Nd (.str [97]) (Nd .nilslice (Nd .nilslice (Nd Tt (Lf .nilslice) Em) (Lf (Sn 2337 0 1 9))) (Nd Se (Lf Se) (Lf (Ii 131)))) (Nd .nilslice odX489 (Nd (Sn 2160 0 2 9) (Lf (Sl 2304 0 1 1 1)) (Lf Se))))) 36 false)), (2366, (Ce (Nd Se (Lf (Sn 2365 0 4 9)) Em) 2))]
def odL48 : List (Nat × Blk) := [(2127, odX320), (2128, (Ce (Lf (Sl 2127 0 1 1 7)) 1)), (2142, odX304), (2144, (Ce (Lf (Sl 2142 0 1 1 7)) 1)), (2148, (Ce (Nd (Ii 2) odX528 (Nd Se (Nd (Sl 2144 0 1 1 1) (Lf .nilslice) Em) (Lf .nilslice))) 9 false)), (2160, (Ce (Nd (Ii 1) (Nd (Ii 18) (Nd Se (Nd Ff (Lf .nilslice) Em) (Lf Se)) (Nd .nilslice (Nd (Ii 5) (Lf .nilslice) Em) (Lf (Sl 2128 0 1 1 1)))) (Nd (.str [98]) odX493 (Nd .nilslice (Lf (Ii 19)) (Lf (Sn 2148 0 1 9))))) 18 false)), (2216, odX304), (2218, (Ce (Lf (Sl 2216 0 1 1 7)) 1)), (2222, (Ce (Nd (Ii 2) odX517 (Nd Se (Nd (Sl 2218 0 1 1 1) (Lf .nilslice) Em) (Lf .nilslice))) 9 false)), (2337, odX239)]
def odL49 : List (Nat × Blk) := [(2077, odX304), (2079, (Ce (Lf (Sl 2077 0 1 1 7)) 1)), (2081, (Ce (Nd (Ii 6) (Nd Se odX490 (Nd Ff (Lf .nilslice) (Lf (Sl 2079 0 1 1 1)))) odX357) 14 false)), (2082, (Ce (Lf (Sn 2081 0 2 7)) 1)), (2167, odX319), (2168, (Ce (Lf (Sl 2167 0 1 1 7)) 1)), (2177, odX252), (2213, (Ce (Nd (Ii 1) (Nd (Ii 48) (Nd Se (Nd Ff (Lf (Sn 2201 0 1 9)) Em) (Lf Se)) (Nd .nilslice (Nd (Ii 5) (Lf .nilslice) Em) (Lf (Sl 2168 0 1 1 1)))) (Nd (.str [99]) odX492 (Nd .nilslice (Lf (Ii 49)) (Lf (Sn 2177 0 1 9))))) 18 false)), (2257, odX304), (2259, (Ce (Lf (Sl 2257 0 1 1 7)) 1)), (2261, (Ce (Nd (Ii 6) (Nd Se odX490 (Nd Ff (Lf .nilslice) (Lf (Sl 2259 0 1 1 1)))) odX357) 14 false)), (2262, (Ce (Lf (Sn 2261 0 2 7)) 1)), (2277, odX321), (2278, (Ce (Lf (Sl 2277 0 1 1 7)) 1)), (2282, (Ce (Nd (Ii 2) odX508 (Nd Se (Nd (Sl 2278 0 1 1 1) (Lf .nilslice) Em) (Lf .nilslice))) 9 false)), (2317, odX304), (2319, (Ce (Lf (Sl 2317 0 1 1 7)) 1)), (2323, (Ce (Nd (Ii 1) (Nd (Ii 0) (Nd Se (Nd Ff (Nd (Sn 2213 0 2 9) (Lf (Sl 2319 0 1 1 1)) Em) (Lf (Sn 2282 0 1 9))) odX464) (Nd .nilslice odX451 (Nd (Sl 2082 0 1 1 1) (Lf Se) (Lf Se)))) (Nd (.str [97]) (Nd .nilslice (Nd .nilslice (Nd Tt (Lf .nilslice) Em) (Lf (Sn 2295 0 1 9))) (Nd Se (Lf Se) (Lf (Ii 125)))) (Nd .nilslice odX489 (Nd (Sn 2139 0 2 9) (Lf (Sl 2262 0 1 1 1)) (Lf Se))))) 36 false)), (2324, (Ce (Nd Se (Lf (Sn 2323 0 4 9)) Em) 2))]
def odL50 : List (Nat × Blk) := [(2106, odX320), (2107, (Ce (Lf (Sl 2106 0 1 1 7)) 1)), (2121, odX304), (2123, (Ce (Lf (Sl 2121 0 1 1 7)) 1)), (2127, (Ce (Nd (Ii 2) odX530 (Nd Se (Nd (Sl 2123 0 1 1 1) (Lf .nilslice) Em) (Lf .nilslice))) 9 false)), (2139, (Ce (Nd (Ii 1) (Nd (Ii 15) (Nd Se (Nd Ff (Lf .nilslice) Em) (Lf Se)) (Nd .nilslice (Nd (Ii 5) (Lf .nilslice) Em) (Lf (Sl 2107 0 1 1 1)))) (Nd (.str [98]) odX493 (Nd .nilslice (Lf (Ii 16)) (Lf (Sn 2127 0 1 9))))) 18 false)), (2195, odX304), (2197, (Ce (Lf (Sl 2195 0 1 1 7)) 1)), (2201, (Ce (Nd (Ii 2) odX519 (Nd Se (Nd (Sl 2197 0 1 1 1) (Lf .nilslice) Em) (Lf .nilslice))) 9 false)), (2295, odX241)]
def odL51 : List (Nat × Blk) := [(266, (Ce (Nd (.str [102]) (Nd .nilslice (Lf Se) (Lf .nilslice)) (Nd (Ii 1) (Lf .nilslice) Em)) 6))]
def odL52 : List (Nat × Blk) := [(3029, (.map [(odX258, (Ii 0))])), (3032, (Ce (Nd (Sn 3043 0 1 4) (Nd (.map 3029) (Lf (Ii 0)) Em) (Nd (.map 3030) (Lf (.map 3031)) Em)) 5)), (3043, (Ce (Nd (Ii 1) (Nd Se (Lf .nilslice) Em) (Lf .nilslice)) 4 false))]
def odL53 : List (Nat × Blk) := [(3031, (.map [((.str [102]), (Sl 3045 0 1 1 1))])), (3045, (Ce (Lf (Ii 0)) 1)), (3074, (Ce (Nd Se (Lf (Sn 3077 0 4 9)) Em) 2 false))]
def odL54 : List (Nat × Blk) := [(3077, (Ce (Nd (Ii 1) (Nd (Ii 0) (Nd Se odX350 odX467) odX296) (Nd (.str [97]) (Nd .nilslice odX428 (Nd Se (Lf Se) (Lf (Ii 119)))) odX279)) 36 false)), (3084, odX307), (3087, (Ce (Nd (Ii 1) (Nd (Ii 12) (Nd Se (Nd Ff (Lf .nilslice) Em) (Lf Se)) odX378) (Nd (.str [98]) odX493 (Nd .nilslice (Lf (Ii 13)) (Lf (Sn 3097 0 1 9))))) 18 false)), (3097, (Ce (Nd (Ii 2) odX533 odX424) 9 false)), (3106, (Ce (Nd (Ii 1) (Nd (Ii 45) odX497 odX374) (Nd (.str [99]) odX492 (Nd .nilslice (Lf (Ii 46)) (Lf (Sn 3116 0 1 9))))) 18 false)), (3116, odX255), (3119, (Ce (Nd (Ii 2) odX522 odX420) 9 false)), (3132, odX307), (3135, (Ce (Nd (Ii 2) odX511 odX416) 9 false)), (3144, odX244)]
def odL55 : List (Nat × Blk) := [(3081, (Ce (Lf (Sn 3084 0 1 7)) 1 false)), (3091, (Ce (Lf (Sn 3094 0 1 7)) 1 false)), (3094, odX308), (3100, (Ce (Lf (Sn 3103 0 1 7)) 1 false)), (3103, odX297), (3113, odX307), (3122, (Ce (Lf (Sn 3125 0 1 7)) 1 false)), (3125, odX297), (3138, (Ce (Lf (Sn 3141 0 1 7)) 1 false)), (3141, odX309), (3148, (Ce (Lf (Sn 3151 0 1 7)) 1 false)), (3151, odX297), (3153, (Ce (Nd Se (Lf (Ii 0)) Em) 2)), (3154, (Ce (Nd (Ii 1) odX398 (Nd .nilslice (Nd .nilslice (Lf (Sl 3153 0 1 1 2)) Em) (Lf (Sn 3074 0 1 2)))) 9))]
def odL56 : List (Nat × Blk) := [(3077, (Ce (Nd (Ii 1) (Nd (Ii 0) (Nd Se odX350 odX466) odX296) (Nd (.str [97]) (Nd .nilslice odX428 (Nd Se (Lf Se) (Lf (Ii 121)))) odX279)) 36 false)), (3084, odX308), (3087, (Ce (Nd (Ii 1) (Nd (Ii 13) (Nd Se (Nd Ff (Lf .nilslice) Em) (Lf Se)) odX378) (Nd (.str [98]) odX493 (Nd .nilslice (Lf (Ii 14)) (Lf (Sn 3097 0 1 9))))) 18 false)), (3097, (Ce (Nd (Ii 2) odX532 odX424) 9 false)), (3106, (Ce (Nd (Ii 1) (Nd (Ii 46) odX497 odX374) (Nd (.str [99]) odX492 (Nd .nilslice (Lf (Ii 47)) (Lf (Sn 3116 0 1 9))))) 18 false)), (3116, odX254), (3119, (Ce (Nd (Ii 2) odX521 odX420) 9 false)), (3132, odX308), (3135, (Ce (Nd (Ii 2) odX510 odX416) 9 false)), (3144, odX243)]
def odL57 : List (Nat × Blk) := [(3029, (.map [(odX258, (Ii 0)), ((.agg [(Ii 2), (Ii 0), (Ii 0), Se, Se, Se, Se, Se, Se, Se, Se, Se, (Ii 0), (Ii 0), (Ii 0), (Ii 0), (Ii 0), (Ii 0), (Ii 0), (Ii 0)]), (Ii 1))]))]
def odL58 : List (Nat × Blk) := [(3032, (Ce (Nd (Sn 3188 0 2 4) (Nd (.map 3029) (Lf (Ii 0)) Em) (Nd (.map 3030) (Lf (.map 3031)) Em)) 5)), (3084, odX158), (3134, odX158), (3188, odX274)]
def odL59 : List (Nat × Blk) := [(3077, (Ce (Nd (Ii 1) (Nd (Ii 0) (Nd Se odX348 odX465) odX296) (Nd (.str [97]) (Nd .nilslice odX426 (Nd Se (Lf Se) (Lf (Ii 123)))) odX277)) 36 false)), (3089, (Ce (Nd (Ii 1) (Nd (Ii 14) (Nd Se (Nd Ff (Lf .nilslice) Em) (Lf Se)) odX376) (Nd (.str [98]) odX493 (Nd .nilslice (Lf (Ii 15)) (Lf (Sn 3099 0 1 9))))) 18 false)), (3099, (Ce (Nd (Ii 2) odX531 odX422) 9 false)), (3108, (Ce (Nd (Ii 1) (Nd (Ii 47) odX495 odX372) (Nd (.str [99]) odX492 (Nd .nilslice (Lf (Ii 48)) (Lf (Sn 3118 0 1 9))))) 18 false)), (3118, odX253), (3121, (Ce (Nd (Ii 2) odX520 odX418) 9 false)), (3139, (Ce (Nd (Ii 2) odX509 odX414) 9 false)), (3148, odX242)]
def odL60 : List (Nat × Blk) := [(3093, (Ce (Lf (Sn 3096 0 1 7)) 1 false)), (3096, odX308), (3102, (Ce (Lf (Sn 3105 0 1 7)) 1 false)), (3105, odX297), (3112, (Ce (Lf (Sn 3115 0 1 7)) 1 false)), (3115, odX307), (3127, odX297), (3131, (Ce (Lf (Sn 3134 0 3 7)) 1 false)), (3142, (Ce (Lf (Sn 3145 0 1 7)) 1 false)), (3145, odX309), (3155, odX297), (3157, (Ce (Nd Se (Lf (Ii 0)) Em) 2)), (3158, (Ce (Nd (Ii 1) odX398 (Nd .nilslice (Nd .nilslice (Lf (Sl 3157 0 1 1 2)) Em) (Lf (Sn 3074 0 1 2)))) 9))]
def odL61 : List (Nat × Blk) := [(3077, (Ce (Nd (Ii 1) (Nd (Ii 0) (Nd Se odX349 odX463) odX296) (Nd (.str [97]) (Nd .nilslice odX427 (Nd Se (Lf Se) (Lf (Ii 127)))) odX278)) 36 false)), (3084, odX188), (3088, (Ce (Nd (Ii 1) (Nd (Ii 16) (Nd Se (Nd Ff (Lf .nilslice) Em) (Lf Se)) odX377) (Nd (.str [98]) odX493 (Nd .nilslice (Lf (Ii 17)) (Lf (Sn 3098 0 1 9))))) 18 false)), (3098, (Ce (Nd (Ii 2) odX529 odX423) 9 false)), (3107, (Ce (Nd (Ii 1) (Nd (Ii 49) odX496 odX373) (Nd (.str [99]) odX492 (Nd .nilslice (Lf (Ii 50)) (Lf (Sn 3117 0 1 9))))) 18 false)), (3117, odX251), (3120, (Ce (Nd (Ii 2) odX518 odX419) 9 false)), (3133, odX188), (3137, (Ce (Nd (Ii 2) odX507 odX415) 9 false)), (3146, odX240)]
def odL62 : List (Nat × Blk) := [(3092, (Ce (Lf (Sn 3095 0 1 7)) 1 false)), (3095, odX308), (3104, odX297), (3111, (Ce (Lf (Sn 3114 0 1 7)) 1 false)), (3114, odX307), (3123, (Ce (Lf (Sn 3126 0 1 7)) 1 false)), (3126, odX297), (3130, (Ce (Lf (Sn 3133 0 2 7)) 1 false)), (3140, (Ce (Lf (Sn 3143 0 1 7)) 1 false)), (3143, odX309), (3155, (Ce (Nd Se (Lf (Ii 0)) Em) 2)), (3156, (Ce (Nd (Ii 1) odX398 (Nd .nilslice (Nd .nilslice (Lf (Sl 3155 0 1 1 2)) Em) (Lf (Sn 3074 0 1 2)))) 9))]
def odL63 : List (Nat × Blk) := [(3150, (Ce (Lf (Sn 3153 0 1 7)) 1 false)), (3153, odX297)]
def odL64 : List (Nat × Blk) := [(3077, (Ce (Nd (Ii 1) (Nd (Ii 0) (Nd Se odX348 odX459) odX296) (Nd (.str [97]) (Nd .nilslice odX426 (Nd Se (Lf Se) (Lf (Ii 139)))) odX277)) 36 false)), (3084, odX156), (3089, (Ce (Nd (Ii 1) (Nd (Ii 22) (Nd Se (Nd Ff (Lf .nilslice) Em) (Lf Se)) odX376) (Nd (.str [98]) odX493 (Nd .nilslice (Lf (Ii 23)) (Lf (Sn 3099 0 1 9))))) 18 false)), (3099, (Ce (Nd (Ii 2) odX525 odX422) 9 false)), (3108, (Ce (Nd (Ii 1) (Nd (Ii 55) odX495 odX372) (Nd (.str [99]) odX492 (Nd .nilslice (Lf (Ii 56)) (Lf (Sn 3118 0 1 9))))) 18 false)), (3118, odX247), (3121, (Ce (Nd (Ii 2) odX514 odX418) 9 false)), (3134, odX156), (3139, (Ce (Nd (Ii 2) odX503 odX414) 9 false)), (3148, odX236)]
def odL65 : List (Nat × Blk) := [(3032, (Ce (Nd (Sn 3223 0 2 4) (Nd (.map 3029) (Lf (Ii 0)) Em) (Nd (.map 3030) (Lf (.map 3031)) Em)) 5)), (3077, (Ce (Nd (Ii 1) (Nd (Ii 0) (Nd Se (Nd Ff (Nd (Sn 3116 0 2 9) (Lf (Sn 3168 0 1 1)) Em) (Lf (Sn 3155 0 1 9))) odX458) odX296) (Nd (.str [97]) (Nd .nilslice (Nd .nilslice (Nd Tt (Lf .nilslice) Em) (Lf (Sn 3164 0 1 9))) (Nd Se (Lf Se) (Lf (Ii 145)))) (Nd .nilslice odX489 (Nd (Sn 3097 0 2 9) (Lf (Sn 3139 0 1 1)) (Lf Se))))) 36 false)), (3084, (Ce (Nd (Ii 6) odX266 odX257) 21 false)), (3089, (Ce (Lf (Sn 3092 0 3 7)) 1 false)), (3092, odX157), (3097, (Ce (Nd (Ii 1) (Nd (Ii 25) (Nd Se (Nd Ff (Lf .nilslice) Em) (Lf Se)) (Nd .nilslice (Nd (Ii 5) (Lf .nilslice) Em) (Lf (Sn 3101 0 1 1)))) (Nd (.str [98]) odX493 (Nd .nilslice (Lf (Ii 26)) (Lf (Sn 3107 0 1 9))))) 18 false)), (3104, odX308), (3107, (Ce (Nd (Ii 2) odX524 (Nd Se (Nd (Sn 3110 0 1 1) (Lf .nilslice) Em) (Lf .nilslice))) 9 false)), (3113, odX297), (3116, (Ce (Nd (Ii 1) (Nd (Ii 58) (Nd Se (Nd Ff (Lf (Sn 3129 0 1 9)) Em) (Lf Se)) (Nd .nilslice (Nd (Ii 5) (Lf .nilslice) Em) (Lf (Sn 3120 0 1 1)))) (Nd (.str [99]) odX492 (Nd .nilslice (Lf (Ii 59)) (Lf (Sn 3126 0 1 9))))) 18 false)), (3120, (Ce (Lf (Sn 3123 0 1 7)) 1 false)), (3123, odX307), (3126, odX246), (3129, (Ce (Nd (Ii 2) odX513 (Nd Se (Nd (Sn 3132 0 1 1) (Lf .nilslice) Em) (Lf .nilslice))) 9 false)), (3132, (Ce (Lf (Sn 3135 0 1 7)) 1 false)), (3135, odX297), (3139, (Ce (Lf (Sn 3142 0 3 7)) 1 false)), (3142, (Ce (Nd (Ii 6) odX266 (Nd .nilslice (Nd (Ii 0) (Nd Se (Lf .nilslice) Em) (Nd Ff (Lf (Sn 3147 0 1 1)) Em)) odX487)) 21 false)), (3147, (Ce (Lf (Sn 3150 0 3 7)) 1 false)), (3150, odX157), (3155, (Ce (Nd (Ii 2) odX502 (Nd Se (Nd (Sn 3158 0 1 1) (Lf .nilslice) Em) (Lf .nilslice))) 9 false)), (3158, (Ce (Lf (Sn 3161 0 1 7)) 1 false)), (3161, odX309), (3164, odX235), (3168, (Ce (Lf (Sn 3171 0 1 7)) 1 false)), (3171, odX297), (3173, (Ce (Nd Se (Lf (Ii 0)) Em) 2)), (3174, (Ce (Nd (Ii 1) odX398 (Nd .nilslice (Nd .nilslice (Lf (Sl 3173 0 1 1 2)) Em) (Lf (Sn 3074 0 1 2)))) 9)), (3223, odX274)]
def odL66 : List (Nat × Blk) := [(3077, (Ce (Nd (Ii 1) (Nd (Ii 0) (Nd Se odX350 odX468) odX296) (Nd (.str [97]) (Nd .nilslice odX428 (Nd Se (Lf Se) (Lf (Ii 113)))) odX279)) 36 false)), (3084, odX309), (3087, (Ce (Nd (Ii 1) (Nd (Ii 9) (Nd Se (Nd Ff (Lf .nilslice) Em) (Lf Se)) odX378) (Nd (.str [98]) odX493 (Nd .nilslice (Lf (Ii 10)) (Lf (Sn 3097 0 1 9))))) 18 false)), (3097, (Ce (Nd (Ii 2) odX534 odX424) 9 false)), (3106, (Ce (Nd (Ii 1) (Nd (Ii 42) odX497 odX374) (Nd (.str [99]) odX492 (Nd .nilslice (Lf (Ii 43)) (Lf (Sn 3116 0 1 9))))) 18 false)), (3116, odX256), (3119, (Ce (Nd (Ii 2) odX523 odX420) 9 false)), (3132, odX309), (3135, (Ce (Nd (Ii 2) odX512 odX416) 9 false)), (3144, odX245)]
def odL67 : List (Nat × Blk) := [(3084, odX159), (3134, odX159)]
def odL68 : List (Nat × Blk) := [(3077, (Ce (Nd (Ii 1) (Nd (Ii 0) (Nd Se odX349 odX466) odX296) (Nd (.str [97]) (Nd .nilslice odX427 (Nd Se (Lf Se) (Lf (Ii 121)))) odX278)) 36 false)), (3084, odX189), (3088, (Ce (Nd (Ii 1) (Nd (Ii 13) (Nd Se (Nd Ff (Lf .nilslice) Em) (Lf Se)) odX377) (Nd (.str [98]) odX493 (Nd .nilslice (Lf (Ii 14)) (Lf (Sn 3098 0 1 9))))) 18 false)), (3098, (Ce (Nd (Ii 2) odX532 odX423) 9 false)), (3107, (Ce (Nd (Ii 1) (Nd (Ii 46) odX496 odX373) (Nd (.str [99]) odX492 (Nd .nilslice (Lf (Ii 47)) (Lf (Sn 3117 0 1 9))))) 18 false)), (3117, odX254), (3120, (Ce (Nd (Ii 2) odX521 odX419) 9 false)), (3133, odX189), (3137, (Ce (Nd (Ii 2) odX510 odX415) 9 false)), (3146, odX243)]
def odL69 : List (Nat × Blk) := [(3077, (Ce (Nd (Ii 1) (Nd (Ii 0) (Nd Se odX347 odX460) odX296) (Nd (.str [97]) (Nd .nilslice odX425 (Nd Se (Lf Se) (Lf (Ii 137)))) odX276)) 36 false)), (3095, (Ce (Nd (Ii 1) (Nd (Ii 21) (Nd Se (Nd Ff (Lf .nilslice) Em) (Lf Se)) odX375) (Nd (.str [98]) odX493 (Nd .nilslice (Lf (Ii 22)) (Lf (Sn 3105 0 1 9))))) 18 false)), (3105, (Ce (Nd (Ii 2) odX526 odX421) 9 false)), (3114, (Ce (Nd (Ii 1) (Nd (Ii 54) odX494 odX371) (Nd (.str [99]) odX492 (Nd .nilslice (Lf (Ii 55)) (Lf (Sn 3124 0 1 9))))) 18 false)), (3124, odX248), (3127, (Ce (Nd (Ii 2) odX515 odX417) 9 false)), (3151, (Ce (Nd (Ii 2) odX504 odX413) 9 false)), (3160, odX237)]
def odL70 : List (Nat × Blk) := [(3084, (Ce (Nd (Ii 6) odX265 odX257) 21 false)), (3140, (Ce (Nd (Ii 6) odX265 (Nd .nilslice (Nd (Ii 0) (Nd Se (Lf .nilslice) Em) (Nd Ff (Lf (Sn 3145 0 1 1)) Em)) odX487)) 21 false))]
def odL71 : List (Nat × Blk) := [(3089, (Ce (Lf (Sn 3092 0 1 7)) 1 false)), (3092, odX297), (3145, (Ce (Lf (Sn 3148 0 1 7)) 1 false)), (3148, odX297)]
def odL72 : List (Nat × Blk) := [(3099, (Ce (Lf (Sn 3102 0 1 7)) 1 false)), (3102, odX308), (3108, (Ce (Lf (Sn 3111 0 1 7)) 1 false)), (3111, odX297), (3118, (Ce (Lf (Sn 3121 0 1 7)) 1 false)), (3121, odX307), (3130, (Ce (Lf (Sn 3133 0 1 7)) 1 false)), (3133, odX297), (3137, (Ce (Lf (Sn 3140 0 3 7)) 1 false)), (3154, (Ce (Lf (Sn 3157 0 1 7)) 1 false)), (3157, odX309), (3164, (Ce (Lf (Sn 3167 0 1 7)) 1 false)), (3167, odX297), (3169, (Ce (Nd Se (Lf (Ii 0)) Em) 2)), (3170, (Ce (Nd (Ii 1) odX398 (Nd .nilslice (Nd .nilslice (Lf (Sl 3169 0 1 1 2)) Em) (Lf (Sn 3074 0 1 2)))) 9))]
def odL73 : List (Nat × Blk) := [(3077, (Ce (Nd (Ii 1) (Nd (Ii 0) (Nd Se odX347 odX461) odX296) (Nd (.str [97]) (Nd .nilslice odX425 (Nd Se (Lf Se) (Lf (Ii 133)))) odX276)) 36 false)), (3084, (Ce (Nd (Ii 6) odX266 (Nd .nilslice (Nd (Ii 0) (Nd Se (Lf .nilslice) Em) (Nd Tt (Lf (Sn 3089 0 1 1)) Em)) odX487)) 21 false)), (3095, (Ce (Nd (Ii 1) (Nd (Ii 19) (Nd Se (Nd Ff (Lf .nilslice) Em) (Lf Se)) odX375) (Nd (.str [98]) odX493 (Nd .nilslice (Lf (Ii 20)) (Lf (Sn 3105 0 1 9))))) 18 false)), (3105, (Ce (Nd (Ii 2) odX527 odX421) 9 false)), (3114, (Ce (Nd (Ii 1) (Nd (Ii 52) odX494 odX371) (Nd (.str [99]) odX492 (Nd .nilslice (Lf (Ii 53)) (Lf (Sn 3124 0 1 9))))) 18 false)), (3124, odX249), (3127, (Ce (Nd (Ii 2) odX516 odX417) 9 false)), (3140, (Ce (Nd (Ii 6) odX266 (Nd .nilslice (Nd (Ii 0) (Nd Se (Lf .nilslice) Em) (Nd Tt (Lf (Sn 3145 0 1 1)) Em)) odX487)) 21 false)), (3151, (Ce (Nd (Ii 2) odX505 odX413) 9 false)), (3160, odX238)]
def odL74 : List (Nat × Blk) := [(3084, (Ce (Nd (Ii 6) (Nd Se odX351 odX442) odX260) 21 false)), (3140, (Ce (Nd (Ii 6) (Nd Se odX351 (Nd Ff (Nd .nilslice (Lf Se) Em) (Lf (Sn 3144 0 1 1)))) odX260) 21 false)), (3144, (Ce (Lf (Sn 3147 0 1 7)) 1 false)), (3147, odX297)]
def odL75 : List (Nat × Blk) := [(3088, (Ce (Lf (Sn 3091 0 1 7)) 1 false)), (3091, odX297)]
def odL76 : List (Nat × Blk) := [(3077, (Ce (Nd (Ii 1) (Nd (Ii 0) (Nd Se (Nd Ff (Nd (Sn 3120 0 2 9) (Lf (Sn 3176 0 1 1)) Em) (Lf (Sn 3163 0 1 9))) odX462) odX296) (Nd (.str [97]) (Nd .nilslice (Nd .nilslice (Nd Tt (Lf .nilslice) Em) (Lf (Sn 3172 0 1 9))) (Nd Se (Lf Se) (Lf (Ii 131)))) (Nd .nilslice odX489 (Nd (Sn 3101 0 2 9) (Lf (Sn 3143 0 1 1)) (Lf Se))))) 36 false)), (3084, (Ce (Nd (Ii 6) (Nd Se odX367 odX442) (Nd .nilslice (Nd (Ii 0) (Nd Se (Lf .nilslice) Em) (Nd Ff (Lf (Sn 3095 0 1 1)) Em)) odX487)) 21 false)), (3095, (Ce (Lf (Sn 3098 0 1 7)) 1 false)), (3098, odX297), (3101, (Ce (Nd (Ii 1) (Nd (Ii 18) (Nd Se (Nd Ff (Lf .nilslice) Em) (Lf Se)) (Nd .nilslice (Nd (Ii 5) (Lf .nilslice) Em) (Lf (Sn 3105 0 1 1)))) (Nd (.str [98]) odX493 (Nd .nilslice (Lf (Ii 19)) (Lf (Sn 3111 0 1 9))))) 18 false)), (3105, (Ce (Lf (Sn 3108 0 1 7)) 1 false)), (3108, odX308), (3111, (Ce (Nd (Ii 2) odX528 (Nd Se (Nd (Sn 3114 0 1 1) (Lf .nilslice) Em) (Lf .nilslice))) 9 false)), (3114, (Ce (Lf (Sn 3117 0 1 7)) 1 false)), (3117, odX297), (3120, (Ce (Nd (Ii 1) (Nd (Ii 51) (Nd Se (Nd Ff (Lf (Sn 3133 0 1 9)) Em) (Lf Se)) (Nd .nilslice (Nd (Ii 5) (Lf .nilslice) Em) (Lf (Sn 3124 0 1 1)))) (Nd (.str [99]) odX492 (Nd .nilslice (Lf (Ii 52)) (Lf (Sn 3130 0 1 9))))) 18 false)), (3127, odX307), (3130, odX250), (3133, (Ce (Nd (Ii 2) odX517 (Nd Se (Nd (Sn 3136 0 1 1) (Lf .nilslice) Em) (Lf .nilslice))) 9 false)), (3136, (Ce (Lf (Sn 3139 0 1 7)) 1 false)), (3139, odX297), (3143, (Ce (Lf (Sn 3146 0 3 7)) 1 false)), (3146, (Ce (Nd (Ii 6) (Nd Se odX367 (Nd Ff (Nd .nilslice (Lf Se) Em) (Lf (Sn 3150 0 1 1)))) (Nd .nilslice (Nd (Ii 0) (Nd Se (Lf .nilslice) Em) (Nd Ff (Lf (Sn 3157 0 1 1)) Em)) odX487)) 21 false)), (3157, (Ce (Lf (Sn 3160 0 1 7)) 1 false)), (3160, odX297), (3163, (Ce (Nd (Ii 2) odX506 (Nd Se (Nd (Sn 3166 0 1 1) (Lf .nilslice) Em) (Lf .nilslice))) 9 false)), (3166, (Ce (Lf (Sn 3169 0 1 7)) 1 false)), (3169, odX309), (3172, odX239), (3176, (Ce (Lf (Sn 3179 0 1 7)) 1 false)), (3179, odX297), (3181, (Ce (Nd Se (Lf (Ii 0)) Em) 2)), (3182, (Ce (Nd (Ii 1) odX398 (Nd .nilslice (Nd .nilslice (Lf (Sl 3181 0 1 1 2)) Em) (Lf (Sn 3074 0 1 2)))) 9))]
def odL77 : List (Nat × Blk) := [(3077, (Ce (Nd (Ii 1) (Nd (Ii 0) (Nd Se (Nd Ff (Nd (Sn 3113 0 2 9) (Lf (Sn 3162 0 1 1)) Em) (Lf (Sn 3149 0 1 9))) odX464) odX296) (Nd (.str [97]) (Nd .nilslice (Nd .nilslice (Nd Tt (Lf .nilslice) Em) (Lf (Sn 3158 0 1 9))) (Nd Se (Lf Se) (Lf (Ii 125)))) (Nd .nilslice odX489 (Nd (Sn 3094 0 2 9) (Lf (Sn 3136 0 1 1)) (Lf Se))))) 36 false)), (3084, (Ce (Nd (Ii 6) (Nd Se odX490 (Nd Ff (Lf .nilslice) (Lf (Sn 3088 0 1 1)))) odX357) 14 false)), (3094, (Ce (Nd (Ii 1) (Nd (Ii 15) (Nd Se (Nd Ff (Lf .nilslice) Em) (Lf Se)) (Nd .nilslice (Nd (Ii 5) (Lf .nilslice) Em) (Lf (Sn 3098 0 1 1)))) (Nd (.str [98]) odX493 (Nd .nilslice (Lf (Ii 16)) (Lf (Sn 3104 0 1 9))))) 18 false)), (3098, (Ce (Lf (Sn 3101 0 1 7)) 1 false)), (3101, odX308), (3104, (Ce (Nd (Ii 2) odX530 (Nd Se (Nd (Sn 3107 0 1 1) (Lf .nilslice) Em) (Lf .nilslice))) 9 false)), (3107, (Ce (Lf (Sn 3110 0 1 7)) 1 false)), (3110, odX297), (3113, (Ce (Nd (Ii 1) (Nd (Ii 48) (Nd Se (Nd Ff (Lf (Sn 3126 0 1 9)) Em) (Lf Se)) (Nd .nilslice (Nd (Ii 5) (Lf .nilslice) Em) (Lf (Sn 3117 0 1 1)))) (Nd (.str [99]) odX492 (Nd .nilslice (Lf (Ii 49)) (Lf (Sn 3123 0 1 9))))) 18 false)), (3117, (Ce (Lf (Sn 3120 0 1 7)) 1 false)), (3120, odX307), (3123, odX252), (3126, (Ce (Nd (Ii 2) odX519 (Nd Se (Nd (Sn 3129 0 1 1) (Lf .nilslice) Em) (Lf .nilslice))) 9 false)), (3132, odX297), (3136, (Ce (Lf (Sn 3139 0 2 7)) 1 false)), (3139, (Ce (Nd (Ii 6) (Nd Se odX490 (Nd Ff (Lf .nilslice) (Lf (Sn 3143 0 1 1)))) odX357) 14 false)), (3143, (Ce (Lf (Sn 3146 0 1 7)) 1 false)), (3146, odX297), (3149, (Ce (Nd (Ii 2) odX508 (Nd Se (Nd (Sn 3152 0 1 1) (Lf .nilslice) Em) (Lf .nilslice))) 9 false)), (3155, odX309), (3158, odX241), (3162, (Ce (Lf (Sn 3165 0 1 7)) 1 false)), (3165, odX297), (3167, (Ce (Nd Se (Lf (Ii 0)) Em) 2)), (3168, (Ce (Nd (Ii 1) odX398 (Nd .nilslice (Nd .nilslice (Lf (Sl 3167 0 1 1 2)) Em) (Lf (Sn 3074 0 1 2)))) 9))]
def odL78 : List (Nat × Blk) := [(4086, (Ce (Nd (Pp 3154 0) (Lf (Sn 4427 0 1 2)) Em) 2)), (4214, odX40), (4218, (Ce (Nd (Ii 0) odX53 (Nd (Ii 0) (Nd (Ii 0) odX268 (Nd .nilslice odX390 (Nd .nilslice (Nd .nilslice (Lf .nilslice) Em) (Nd .nilslice (Lf (Sn 4214 0 4 16)) Em)))) odX131)) 96 false)), (4269, odX93), (4306, odX38), (4308, (Ce (Nd (Ii 0) (Nd (Ii 0) odX115 (Nd (.int .u64 (.ofNat 0)) odX207 (Nd .nilslice odX226 (Nd .nilslice (Nd .nilslice (Lf .nilslice) Em) (Nd .nilslice (Lf (Sn 4306 0 4 16)) Em))))) (Nd (Ii 0) (Nd (Ii 0) odX268 (Nd .nilslice odX390 (Nd .nilslice (Nd .nilslice (Lf .nilslice) Em) (Nd .nilslice (Lf (Sn 4269 0 2 16)) Em)))) odX127)) 96 false)), (4427, (Ce (Nd (Ii 8) (Lf (Sn 4425 0 16 16)) Em) 2 false))]
def odL79 : List (Nat × Blk) := [(4425, (Ce (Nd (Ii 0) (Nd (Ii 0) odX44 (Nd (.int .u64 (.ofNat 0)) odX98 (Nd .nilslice odX101 odX177))) odX7) 256 false))]
def odL80 : List (Nat × Blk) := [(4425, (Ce (Nd (Ii 0) (Nd (Ii 0) odX44 (Nd (.int .u64 (.ofNat 0)) odX98 (Nd .nilslice odX102 odX177))) odX7) 256 false))]
def odL81 : List (Nat × Blk) := [(4090, (Ce (Nd (Pp 3158 0) (Lf (Sn 4563 0 1 2)) Em) 2)), (4156, (Ce (Nd (Ii 1) (Lf (Ii 2)) Em) 2 false)), (4284, odX38), (4288, (Ce (Nd (Ii 0) odX51 (Nd (Ii 0) (Nd (Ii 0) odX268 (Nd .nilslice odX390 (Nd .nilslice (Nd .nilslice (Lf .nilslice) Em) (Nd .nilslice (Lf (Sn 4284 0 4 16)) Em)))) odX128)) 96 false)), (4339, odX93), (4378, (Ce (Nd (Ii 0) (Nd (Ii 0) odX115 (Nd (.int .u64 (.ofNat 0)) odX205 (Nd .nilslice odX226 odX316))) (Nd (Ii 0) (Nd (Ii 0) odX268 (Nd .nilslice odX390 (Nd .nilslice (Nd .nilslice (Lf .nilslice) Em) (Nd .nilslice (Lf (Sn 4339 0 2 16)) Em)))) odX124)) 96 false)), (4436, (Ce (Nd (Ii 8) (Lf (Ii 9)) Em) 2 false)), (4563, (Ce (Nd (Ii 12) (Lf (Sn 4561 0 20 16)) Em) 2 false))]
def odL82 : List (Nat × Blk) := [(4376, odX36)]
def odL83 : List (Nat × Blk) := [(4561, (Ce (Nd (Ii 0) (Nd (Ii 0) odX21 (Nd (.int .u64 (.ofNat 0)) odX80 (Nd .nilslice odX85 odX144))) (Nd (Ii 0) (Nd (Ii 0) odX103 (Nd .nilslice odX170 odX145)) odX30)) 320 false))]
def odL84 : List (Nat × Blk) := [(4088, (Ce (Nd (Pp 3156 0) (Lf (Sn 4507 0 1 2)) Em) 2)), (4132, (Ce (Lf (Ii 1)) 1 false)), (4255, odX39), (4259, (Ce (Nd (Ii 0) odX52 (Nd (Ii 0) (Nd (Ii 0) odX268 (Nd .nilslice odX390 (Nd .nilslice (Nd .nilslice (Lf .nilslice) Em) (Nd .nilslice (Lf (Sn 4255 0 4 16)) Em)))) odX130)) 96 false)), (4310, odX93), (4347, odX37), (4349, (Ce (Nd (Ii 0) (Nd (Ii 0) odX115 (Nd (.int .u64 (.ofNat 0)) odX206 (Nd .nilslice odX226 (Nd .nilslice (Nd .nilslice (Lf .nilslice) Em) (Nd .nilslice (Lf (Sn 4347 0 4 16)) Em))))) (Nd (Ii 0) (Nd (Ii 0) odX268 (Nd .nilslice odX390 (Nd .nilslice (Nd .nilslice (Lf .nilslice) Em) (Nd .nilslice (Lf (Sn 4310 0 2 16)) Em)))) odX126)) 96 false)), (4385, (Ce (Lf (Ii 7)) 1 false)), (4505, (Ce (Nd (Ii 0) (Nd (Ii 0) (Nd (Ii 0) odX90 (Nd .nilslice odX183 (Nd .nilslice (Nd .nilslice odX412 (Nd .nilslice (Lf (Sn 4385 0 1 1)) (Lf .nilslice))) (Nd .nilslice (Nd (Sn 4132 0 1 1) (Nd .nilslice (Lf .nilslice) Em) (Lf .nilslice)) odX549)))) (Nd (.int .u64 (.ofNat 0)) odX91 (Nd .nilslice odX92 (Nd .nilslice (Nd .nilslice odX412 (Nd (Sn 4349 0 6 16) (Lf .nilslice) (Lf .nilslice))) odX267)))) (Nd (Ii 0) (Nd (Ii 0) odX112 (Nd .nilslice odX182 (Nd .nilslice (Nd .nilslice odX412 (Nd (Sn 4259 0 6 16) (Lf .nilslice) (Lf .nilslice))) odX267))) odX31)) 288 false)), (4507, (Ce (Nd (Ii 10) (Lf (Sn 4505 0 18 16)) Em) 2 false))]
def odL85 : List (Nat × Blk) := [(4561, (Ce (Nd (Ii 0) (Nd (Ii 0) odX21 (Nd (.int .u64 (.ofNat 0)) odX80 (Nd .nilslice odX86 odX144))) (Nd (Ii 0) (Nd (Ii 0) odX103 (Nd .nilslice odX171 odX145)) odX29)) 320 false))]
def odL86 : List (Nat × Blk) := [(4106, (Ce (Nd (Pp 3174 0) (Lf (Sn 4731 0 1 2)) Em) 2)), (4202, (Ce (Nd (Ii 2) (Lf (Ii 3)) Em) 2 false)), (4248, (Ce (Nd (Ii 1) (Lf (Ii 4)) Em) 2 false)), (4380, (Ce (Nd (Ii 0) odX50 (Nd (Ii 0) (Nd (Ii 0) odX268 (Nd .nilslice odX390 odX316)) odX125)) 96 false)), (4431, odX93), (4468, odX35), (4470, (Ce (Nd (Ii 0) (Nd (Ii 0) odX115 (Nd (.int .u64 (.ofNat 0)) odX204 (Nd .nilslice odX226 (Nd .nilslice (Nd .nilslice (Lf .nilslice) Em) (Nd .nilslice (Lf (Sn 4468 0 4 16)) Em))))) (Nd (Ii 0) (Nd (Ii 0) odX268 (Nd .nilslice odX390 (Nd .nilslice (Nd .nilslice (Lf .nilslice) Em) (Nd .nilslice (Lf (Sn 4431 0 2 16)) Em)))) odX123)) 96 false)), (4558, (Ce (Nd (Ii 11) (Lf (Ii 12)) Em) 2 false)), (4604, (Ce (Nd (Ii 10) (Lf (Ii 13)) Em) 2 false)), (4729, (Ce (Nd (Ii 0) (Nd (Ii 0) (Nd (Ii 0) odX59 (Nd .nilslice odX136 (Nd .nilslice (Nd .nilslice (Nd .nilslice (Nd (Sn 4202 0 2 1) (Lf .nilslice) (Lf .nilslice)) (Nd .nilslice (Lf .nilslice) Em)) (Nd .nilslice (Nd .nilslice (Lf (Sn 4604 0 2 1)) Em) (Nd .nilslice (Lf .nilslice) Em))) (Nd .nilslice (Nd .nilslice (Nd (Sn 4248 0 2 1) (Lf (Sn 4558 0 2 1)) (Lf .nilslice)) (Nd .nilslice (Lf .nilslice) Em)) odX331)))) (Nd (.int .u64 (.ofNat 0)) odX60 (Nd .nilslice odX62 (Nd .nilslice (Nd .nilslice odX306 (Nd .nilslice (Nd (Sn 4470 0 6 16) (Lf .nilslice) Em) (Nd .nilslice (Lf .nilslice) Em))) odX190)))) (Nd (Ii 0) (Nd (Ii 0) odX84 (Nd .nilslice odX135 (Nd .nilslice (Nd .nilslice odX306 (Nd .nilslice (Nd (Sn 4380 0 6 16) (Lf .nilslice) Em) (Nd .nilslice (Lf .nilslice) Em))) odX190))) odX9)) 416 false)), (4731, (Ce (Nd (Ii 16) (Lf (Sn 4729 0 26 16)) Em) 2 false))]
def odL87 : List (Nat × Blk) := [(4086, (Ce (Nd (Pp 3154 0) (Lf (Sn 4435 0 1 2)) Em) 2)), (4218, odX41), (4222, (Ce (Nd (Ii 0) odX54 (Nd (Ii 0) (Nd (Ii 0) odX268 (Nd .nilslice odX390 (Nd .nilslice (Nd .nilslice (Lf .nilslice) Em) (Nd .nilslice (Lf (Sn 4218 0 4 16)) Em)))) odX132)) 96 false)), (4273, odX93), (4310, odX39), (4312, (Ce (Nd (Ii 0) (Nd (Ii 0) odX115 (Nd (.int .u64 (.ofNat 0)) odX208 (Nd .nilslice odX226 (Nd .nilslice (Nd .nilslice (Lf .nilslice) Em) (Nd .nilslice (Lf (Sn 4310 0 4 16)) Em))))) (Nd (Ii 0) (Nd (Ii 0) odX268 (Nd .nilslice odX390 (Nd .nilslice (Nd .nilslice (Lf .nilslice) Em) (Nd .nilslice (Lf (Sn 4273 0 2 16)) Em)))) odX129)) 96 false)), (4433, (Ce (Nd (Ii 0) (Nd (Ii 0) odX55 (Nd (.int .u64 (.ofNat 0)) odX109 (Nd .nilslice odX110 (Nd .nilslice (Nd .nilslice (Nd (Sn 4312 0 6 16) (Lf .nilslice) (Lf .nilslice)) (Nd .nilslice (Lf .nilslice) Em)) odX306)))) (Nd (Ii 0) (Nd (Ii 0) odX155 (Nd .nilslice odX212 (Nd .nilslice (Nd .nilslice (Nd (Sn 4222 0 6 16) (Lf .nilslice) (Lf .nilslice)) (Nd .nilslice (Lf .nilslice) Em)) odX306))) odX61)) 224 false)), (4435, (Ce (Nd (Ii 6) (Lf (Sn 4433 0 14 16)) Em) 2 false))]
def odL88 : List (Nat × Blk) := [(4090, (Ce (Nd (Pp 3158 0) (Lf (Sn 4579 0 1 2)) Em) 2)), (4164, (Ce (Nd (Ii 0) (Lf (Ii 0)) Em) 2 false)), (4292, odX40), (4296, (Ce (Nd (Ii 0) odX53 (Nd (Ii 0) (Nd (Ii 0) odX268 (Nd .nilslice odX390 (Nd .nilslice (Nd .nilslice (Lf .nilslice) Em) (Nd .nilslice (Lf (Sn 4292 0 4 16)) Em)))) odX131)) 96 false)), (4347, odX93), (4384, odX38), (4386, (Ce (Nd (Ii 0) (Nd (Ii 0) odX115 (Nd (.int .u64 (.ofNat 0)) odX207 (Nd .nilslice odX226 (Nd .nilslice (Nd .nilslice (Lf .nilslice) Em) (Nd .nilslice (Lf (Sn 4384 0 4 16)) Em))))) (Nd (Ii 0) (Nd (Ii 0) odX268 (Nd .nilslice odX390 (Nd .nilslice (Nd .nilslice (Lf .nilslice) Em) (Nd .nilslice (Lf (Sn 4347 0 2 16)) Em)))) odX127)) 96 false)), (4452, (Ce (Nd (Ii 0) (Lf (Ii 0)) Em) 2 false)), (4577, (Ce (Nd (Ii 0) (Nd (Ii 0) (Nd (Ii 0) odX97 (Nd .nilslice odX195 (Nd .nilslice (Nd .nilslice (Nd (Sn 4164 0 2 1) (Lf (Sn 4452 0 2 1)) (Lf .nilslice)) odX549) odX295))) (Nd (.int .u64 (.ofNat 0)) odX98 (Nd .nilslice odX102 (Nd .nilslice odX295 (Nd .nilslice (Nd (Sn 4386 0 6 16) (Lf .nilslice) (Lf .nilslice)) odX549))))) (Nd (Ii 0) (Nd (Ii 0) odX138 (Nd .nilslice odX194 (Nd .nilslice odX295 (Nd .nilslice (Nd (Sn 4296 0 6 16) (Lf .nilslice) (Lf .nilslice)) odX549)))) odX46)) 256 false)), (4579, (Ce (Nd (Ii 8) (Lf (Sn 4577 0 16 16)) Em) 2 false))]
def odL89 : List (Nat × Blk) := [(4088, (Ce (Nd (Pp 3156 0) (Lf (Sn 4515 0 1 2)) Em) 2)), (4136, (Ce (Lf (Ii 0)) 1 false)), (4259, odX40), (4263, (Ce (Nd (Ii 0) odX53 (Nd (Ii 0) (Nd (Ii 0) odX268 (Nd .nilslice odX390 (Nd .nilslice (Nd .nilslice (Lf .nilslice) Em) (Nd .nilslice (Lf (Sn 4259 0 4 16)) Em)))) odX131)) 96 false)), (4314, odX93), (4351, odX38), (4353, (Ce (Nd (Ii 0) (Nd (Ii 0) odX115 (Nd (.int .u64 (.ofNat 0)) odX207 (Nd .nilslice odX226 (Nd .nilslice (Nd .nilslice (Lf .nilslice) Em) (Nd .nilslice (Lf (Sn 4351 0 4 16)) Em))))) (Nd (Ii 0) (Nd (Ii 0) odX268 (Nd .nilslice odX390 (Nd .nilslice (Nd .nilslice (Lf .nilslice) Em) (Nd .nilslice (Lf (Sn 4314 0 2 16)) Em)))) odX127)) 96 false)), (4393, (Ce (Lf (Ii 0)) 1 false)), (4513, (Ce (Nd (Ii 0) (Nd (Ii 0) (Nd (Ii 0) odX97 (Nd .nilslice odX195 (Nd .nilslice (Nd .nilslice (Nd (Sn 4136 0 1 1) (Lf (Sn 4393 0 1 1)) (Lf .nilslice)) odX549) odX295))) (Nd (.int .u64 (.ofNat 0)) odX98 (Nd .nilslice odX102 (Nd .nilslice odX295 (Nd .nilslice (Nd (Sn 4353 0 6 16) (Lf .nilslice) (Lf .nilslice)) odX549))))) (Nd (Ii 0) (Nd (Ii 0) odX138 (Nd .nilslice odX194 (Nd .nilslice odX295 (Nd .nilslice (Nd (Sn 4263 0 6 16) (Lf .nilslice) (Lf .nilslice)) odX549)))) odX45)) 256 false)), (4515, (Ce (Nd (Ii 8) (Lf (Sn 4513 0 16 16)) Em) 2 false))]
def odL90 : List (Nat × Blk) := [(4102, (Ce (Nd (Pp 3170 0) (Lf (Sn 4597 0 1 2)) Em) 2)), (4179, (Ce (Nd (Ii 1) (Lf (Ii 2)) Em) 2 false)), (4307, odX38), (4311, (Ce (Nd (Ii 0) odX51 (Nd (Ii 0) (Nd (Ii 0) odX268 (Nd .nilslice odX390 (Nd .nilslice (Nd .nilslice (Lf .nilslice) Em) (Nd .nilslice (Lf (Sn 4307 0 4 16)) Em)))) odX128)) 96 false)), (4362, odX93), (4399, odX36), (4401, (Ce (Nd (Ii 0) (Nd (Ii 0) odX115 (Nd (.int .u64 (.ofNat 0)) odX205 (Nd .nilslice odX226 (Nd .nilslice (Nd .nilslice (Lf .nilslice) Em) (Nd .nilslice (Lf (Sn 4399 0 4 16)) Em))))) (Nd (Ii 0) (Nd (Ii 0) odX268 (Nd .nilslice odX390 (Nd .nilslice (Nd .nilslice (Lf .nilslice) Em) (Nd .nilslice (Lf (Sn 4362 0 2 16)) Em)))) odX124)) 96 false)), (4470, (Ce (Nd (Ii 8) (Lf (Ii 9)) Em) 2 false)), (4597, (Ce (Nd (Ii 12) (Lf (Sn 4595 0 22 16)) Em) 2 false))]
def odL91 : List (Nat × Blk) := [(4595, (Ce (Nd (Ii 0) (Nd (Ii 0) odX15 (Nd (.int .u64 (.ofNat 0)) odX73 odX34)) (Nd (Ii 0) odX28 odX16)) 352 false))]
def odL92 : List (Nat × Blk) := [(4595, (Ce (Nd (Ii 0) (Nd (Ii 0) odX15 (Nd (.int .u64 (.ofNat 0)) odX73 (Nd .nilslice odX76 odX120))) (Nd (Ii 0) odX28 odX18)) 352 false))]
def odL93 : List (Nat × Blk) := [(4595, (Ce (Nd (Ii 0) (Nd (Ii 0) (Nd (Ii 0) odX69 odX72) (Nd (.int .u64 (.ofNat 0)) odX75 odX34)) (Nd (Ii 0) (Nd (Ii 0) odX95 (Nd .nilslice odX162 odX121)) odX17)) 352 false))]
def odL94 : List (Nat × Blk) := [(4114, (Ce (Nd (Pp 3182 0) (Lf (Sn 4631 0 1 2)) Em) 2)), (4202, (Ce (Nd (Ii 1) (Lf (Ii 2)) Em) 2 false)), (4330, odX38), (4334, (Ce (Nd (Ii 0) odX51 (Nd (Ii 0) (Nd (Ii 0) odX268 (Nd .nilslice odX390 (Nd .nilslice (Nd .nilslice (Lf .nilslice) Em) (Nd .nilslice (Lf (Sn 4330 0 4 16)) Em)))) odX128)) 96 false)), (4385, odX93), (4422, odX36), (4424, (Ce (Nd (Ii 0) (Nd (Ii 0) odX115 (Nd (.int .u64 (.ofNat 0)) odX205 (Nd .nilslice odX226 (Nd .nilslice (Nd .nilslice (Lf .nilslice) Em) (Nd .nilslice (Lf (Sn 4422 0 4 16)) Em))))) (Nd (Ii 0) (Nd (Ii 0) odX268 (Nd .nilslice odX390 (Nd .nilslice (Nd .nilslice (Lf .nilslice) Em) (Nd .nilslice (Lf (Sn 4385 0 2 16)) Em)))) odX124)) 96 false)), (4504, (Ce (Nd (Ii 8) (Lf (Ii 9)) Em) 2 false)), (4629, (Ce (Nd (Ii 0) (Nd (Ii 0) (Nd (Ii 0) odX64 (Nd .nilslice odX151 (Nd .nilslice (Nd .nilslice (Nd .nilslice (Nd (Sn 4202 0 2 1) (Lf (Sn 4504 0 2 1)) Em) (Nd .nilslice (Lf .nilslice) Em)) odX331) odX197))) (Nd (.int .u64 (.ofNat 0)) odX67 (Nd .nilslice odX68 (Nd .nilslice odX197 (Nd .nilslice (Nd .nilslice (Nd (Sn 4424 0 6 16) (Lf .nilslice) Em) (Nd .nilslice (Lf .nilslice) Em)) odX331))))) (Nd (Ii 0) (Nd (Ii 0) odX88 (Nd .nilslice odX150 (Nd .nilslice odX197 (Nd .nilslice (Nd .nilslice (Nd (Sn 4334 0 6 16) (Lf .nilslice) Em) (Nd .nilslice (Lf .nilslice) Em)) odX331)))) odX12)) 384 false)), (4631, (Ce (Nd (Ii 12) (Lf (Sn 4629 0 24 16)) Em) 2 false))]
def odL95 : List (Nat × Blk) := [(4100, (Ce (Nd (Pp 3168 0) (Lf (Sn 4541 0 1 2)) Em) 2)), (4155, (Ce (Lf (Ii 1)) 1 false)), (4278, odX39), (4282, (Ce (Nd (Ii 0) odX52 (Nd (Ii 0) (Nd (Ii 0) odX268 (Nd .nilslice odX390 (Nd .nilslice (Nd .nilslice (Lf .nilslice) Em) (Nd .nilslice (Lf (Sn 4278 0 4 16)) Em)))) odX130)) 96 false)), (4333, odX93), (4370, odX37), (4372, (Ce (Nd (Ii 0) (Nd (Ii 0) odX115 (Nd (.int .u64 (.ofNat 0)) odX206 (Nd .nilslice odX226 (Nd .nilslice (Nd .nilslice (Lf .nilslice) Em) (Nd .nilslice (Lf (Sn 4370 0 4 16)) Em))))) (Nd (Ii 0) (Nd (Ii 0) odX268 (Nd .nilslice odX390 (Nd .nilslice (Nd .nilslice (Lf .nilslice) Em) (Nd .nilslice (Lf (Sn 4333 0 2 16)) Em)))) odX126)) 96 false)), (4419, (Ce (Lf (Ii 7)) 1 false)), (4539, (Ce (Nd (Ii 0) (Nd (Ii 0) (Nd (Ii 0) odX78 (Nd .nilslice odX173 (Nd .nilslice (Nd .nilslice (Nd .nilslice (Nd .nilslice (Lf .nilslice) Em) (Lf (Sn 4419 0 1 1))) (Nd (Sn 4155 0 1 1) (Nd .nilslice (Lf .nilslice) Em) (Lf .nilslice))) odX234))) (Nd (.int .u64 (.ofNat 0)) odX83 (Nd .nilslice odX87 (Nd .nilslice odX234 (Nd .nilslice odX412 (Nd (Sn 4372 0 6 16) (Nd .nilslice (Lf .nilslice) Em) (Lf .nilslice))))))) (Nd (Ii 0) (Nd (Ii 0) odX105 (Nd .nilslice odX172 (Nd .nilslice odX234 (Nd .nilslice odX412 (Nd (Sn 4282 0 6 16) (Nd .nilslice (Lf .nilslice) Em) (Lf .nilslice)))))) odX25)) 320 false)), (4541, (Ce (Nd (Ii 10) (Lf (Sn 4539 0 20 16)) Em) 2 false))]
def odL96 : List (Nat × Blk) := [(6022, (Ce (Nd (Pp 6015 0) (Nd (Ii 1) (Lf .nilslice) (Lf (.int .u64 (.ofNat 1)))) (Nd Se (Lf .nilslice) Em)) 6))]
def odL97 : List (Nat × Blk) := [(6022, (Ce (Nd (Pp 6015 0) (Nd (Ii 1) (Lf .nilslice) (Lf (.int .u64 (.ofNat 0)))) (Nd Se (Lf .nilslice) Em)) 6))]
def odL98 : List (Nat × Blk) := [(269, odX215), (270, (Ce (Nd (.str [102]) (Lf (Sl 269 0 2 2 6)) (Lf (.int .i64 (.negSucc 0)))) 3))]
def odL99 : List (Nat × Blk) := [(7000, (Ce (Nd (Sn 7005 0 1 3) (Lf (Sn 7007 0 1 1)) Em) 2)), (7003, odX203), (7005, (Ce (Nd (.str [102]) (Lf (Sn 7003 0 2 6)) (Lf (.int .i64 (.negSucc 0)))) 3 false))]
def odL100 : List (Nat × Blk) := [(270, odX215), (271, (Ce (Nd (.str [102]) (Lf (Sl 270 0 2 2 6)) (Lf (.int .i64 (.negSucc 0)))) 3))]
def odL101 : List (Nat × Blk) := [(8074, odX213)]
def odL102 : List (Nat × Blk) := [(8077, odX191)]
def odL103 : List (Nat × Blk) := [(8100, odX213)]
def odL104 : List (Nat × Blk) := [(8097, odX191)]
def odL105 : List (Nat × Blk) := [(8109, odX191)]
def odL106 : List (Nat × Blk) := [(8148, odX213)]
def odL107 : List (Nat × Blk) := [(8104, odX213)]
def odL108 : List (Nat × Blk) := [(8121, odX191)]
def odL109 : List (Nat × Blk) := [(8118, odX213)]
def odL110 : List (Nat × Blk) := [(7007, (Ce (Lf (Ii 5)) 1 false)), (8127, odX191)]
def odL111 : List (Nat × Blk) := [(8109, odX196)]
def odL112 : List (Nat × Blk) := [(9000, (.map [((.str [102]), (.agg [(.str [102]), (Sn 9006 0 2 6), (.int .i64 (.negSucc 0))]))])), (9002, (Ce (Nd (.map 9000) (Lf (.map 9001)) Em) 2)), (9006, odX203)]
def odL113 : List (Nat × Blk) := [(10002, (Ce (Nd (Ii 0) odX2 odX6) 256 false))]
def odL114 : List (Nat × Blk) := [(10003, (Ce (Nd (Ii 0) (Nd (Ii 0) odX115 (Nd (.int .u64 (.ofNat 0)) odX207 odX168)) (Nd (Ii 0) odX149 odX127)) 96 false)), (10004, odX38), (10006, (Ce (Nd (Ii 0) odX53 (Nd (Ii 0) odX147 odX131)) 96 false)), (10007, odX40)]
def odL115 : List (Nat × Blk) := [(10005, odX93)]
def odL116 : List (Nat × Blk) := [(10002, (Ce (Nd (Ii 0) odX2 (Nd (Ii 0) odX58 (Nd Se odX100 (Nd .nilslice (Nd (.str [97]) odX370 (Nd Se (Nd Se (Lf Se) (Lf Se)) (Nd Se (Lf (.str [116,114,117,101])) (Lf Se)))) odX178)))) 256 false))]
def odL117 : List (Nat × Blk) := [(10002, (Ce (Nd (Ii 0) odX1 (Nd (Ii 0) (Nd (Ii 0) (Nd Se (Nd (Ii 10) odX280 (Nd (Ii 0) odX475 (Nd (Ii 0) (Nd (Ii 0) (Lf (Ii 11)) Em) (Lf (Ii 11))))) odX202) (Nd .nilslice (Nd (Ii 0) odX286 (Nd (Ii 0) odX475 odX477)) odX152)) (Nd Se (Nd .nilslice (Nd (Ii 0) odX288 (Nd (Ii 0) odX481 (Nd (Ii 0) (Nd (Ii 0) (Lf (Ii 7)) Em) (Lf (Ii 6))))) odX152) (Nd .nilslice (Nd (.str [97]) odX303 odX332) odX152)))) 320 false))]
def odL118 : List (Nat × Blk) := [(10002, (Ce (Nd (Ii 0) odX1 (Nd (Ii 0) (Nd (Ii 0) (Nd Se (Nd (Ii 10) odX280 (Nd (Ii 0) odX475 (Nd (Ii 0) (Nd (Ii 0) (Lf (Ii 11)) Em) (Lf (Ii 10))))) odX202) (Nd .nilslice (Nd (Ii 0) odX286 (Nd (Ii 0) odX475 odX478)) odX152)) (Nd Se (Nd .nilslice (Nd (Ii 0) odX288 (Nd (Ii 0) odX481 odX476)) odX152) (Nd .nilslice (Nd (.str [97]) odX303 odX299) odX152)))) 320 false))]
def odL119 : List (Nat × Blk) := [(10002, (Ce (Nd (Ii 0) odX3 odX6) 256 false))]
def odL120 : List (Nat × Blk) := [(10002, (Ce (Nd (Ii 0) odX3 (Nd (Ii 0) odX58 (Nd Se odX100 (Nd .nilslice (Nd (.str [97]) odX370 (Nd Se (Nd Se (Lf Se) (Lf Se)) (Nd Se (Lf (.str [102,97,108,115,101])) (Lf Se)))) odX178)))) 256 false))]
def odL121 : List (Nat × Blk) := [(10002, (Ce (Nd (Ii 0) odX0 (Nd (Ii 0) (Nd (Ii 0) (Nd Se (Nd (Ii 10) odX259 (Nd (Ii 0) (Nd (Ii 0) (Nd (Ii 1) (Lf (Ii 11)) Em) (Nd (Ii 0) (Lf (Ii 11)) Em)) odX455)) odX192) (Nd .nilslice (Nd (Ii 0) odX263 (Nd (Ii 0) (Nd (Ii 0) (Nd (Ii 1) (Lf (Ii 1)) Em) (Nd (Ii 0) (Lf (Ii 1)) Em)) odX481)) odX122)) (Nd Se (Nd .nilslice (Nd (Ii 0) odX264 (Nd (Ii 0) (Nd (Ii 0) (Nd (Ii 0) (Lf (Ii 6)) Em) (Nd (Ii 0) (Lf (Ii 7)) Em)) odX481)) odX122) (Nd .nilslice (Nd (.str [97]) odX289 (Nd Se odX542 odX548)) odX122)))) 352 false))]
def odL122 : List (Nat × Blk) := [(10002, (Ce (Nd (Ii 0) odX0 (Nd (Ii 0) (Nd (Ii 0) (Nd Se (Nd (Ii 10) odX259 (Nd (Ii 0) (Nd (Ii 0) (Nd (Ii 1) (Lf (Ii 10)) Em) (Nd (Ii 0) (Lf (Ii 11)) Em)) odX455)) odX192) (Nd .nilslice (Nd (Ii 0) odX263 (Nd (Ii 0) (Nd (Ii 0) (Nd (Ii 1) (Lf (Ii 0)) Em) (Nd (Ii 0) (Lf (Ii 1)) Em)) odX481)) odX122)) (Nd Se (Nd .nilslice (Nd (Ii 0) odX264 (Nd (Ii 0) (Nd (Ii 0) (Nd (Ii 0) (Lf (Ii 0)) Em) (Nd (Ii 0) (Lf (Ii 7)) Em)) odX481)) odX122) (Nd .nilslice (Nd (.str [97]) odX289 (Nd Se (Nd Se (Nd Se (Lf (.str [102,97,108,115,101])) Em) (Nd Se (Lf Se) Em)) odX548)) odX122)))) 352 false))]
def odL123 : List (Nat × Blk) := [(10002, (Ce (Nd (Ii 0) (Nd (Ii 0) odX20 (Nd (.int .u64 (.ofNat 0)) odX80 (Nd .nilslice odX85 odX142))) (Nd (Ii 0) (Nd (Ii 0) odX103 (Nd .nilslice odX170 odX140)) odX30)) 320 false))]
def odL124 : List (Nat × Blk) := [(10003, (Ce (Nd (Ii 8) (Lf (Ii 9)) Em) 2 false)), (10004, (Ce (Nd (Ii 1) (Lf (Ii 2)) Em) 2 false))]
def odL125 : List (Nat × Blk) := [(10005, (Ce (Nd (Ii 0) (Nd (Ii 0) odX115 (Nd (.int .u64 (.ofNat 0)) odX205 odX167)) (Nd (Ii 0) odX148 odX124)) 96 false)), (10006, odX36), (10008, (Ce (Nd (Ii 0) odX51 (Nd (Ii 0) odX146 odX128)) 96 false)), (10009, odX38)]
def odL126 : List (Nat × Blk) := [(10007, odX93)]
def odL127 : List (Nat × Blk) := [(10002, (Ce (Nd (Ii 0) (Nd (Ii 0) odX22 (Nd (.int .u64 (.ofNat 0)) odX80 (Nd .nilslice (Nd (.int .u64 (.ofNat 0)) (Nd (.int .u64 (.ofNat 0)) odX281 (Nd (.int .u64 (.ofNat 1)) odX436 (Lf (.int .u64 (.ofNat 0))))) odX165) odX143))) (Nd (Ii 0) (Nd (Ii 0) odX104 (Nd .nilslice (Nd (Ii 0) (Nd (Ii 0) (Nd (Ii 2) (Nd (Ii 0) (Lf (Ii 0)) Em) (Lf (Ii 1))) (Nd (Ii 1) (Nd (Ii 2) (Lf (Ii 0)) Em) (Lf (Ii 0)))) (Nd (Ii 0) odX469 (Nd (Ii 0) (Nd (Ii 2) (Lf (Ii 1)) Em) (Lf (Ii 0))))) odX141)) (Nd Se odX82 (Nd .nilslice (Nd (.str [97]) odX315 odX299) odX152)))) 320 false))]
def odL128 : List (Nat × Blk) := [(10003, (Ce (Nd (Ii 0) (Nd (Ii 0) odX115 (Nd (.int .u64 (.ofNat 0)) odX205 odX168)) (Nd (Ii 0) odX149 odX124)) 96 false)), (10004, odX36), (10006, (Ce (Nd (Ii 0) odX51 (Nd (Ii 0) odX147 odX128)) 96 false)), (10007, odX38)]
def odL129 : List (Nat × Blk) := [(10002, (Ce (Nd (Ii 0) (Nd (Ii 0) (Nd (Ii 0) odX65 (Nd .nilslice odX151 (Nd .nilslice (Nd .nilslice (Nd .nilslice (Nd .nilslice (Lf (Sn 10003 0 2 1)) Em) (Nd .nilslice (Lf .nilslice) Em)) (Nd (Sn 10004 0 2 1) (Nd .nilslice (Lf .nilslice) Em) (Nd .nilslice (Lf .nilslice) Em))) odX197))) (Nd (.int .u64 (.ofNat 0)) odX66 (Nd .nilslice (Nd (.int .u64 (.ofNat 0)) odX133 odX133) odX111))) (Nd (Ii 0) (Nd (Ii 0) (Nd Se (Nd (Ii 10) (Nd (Ii 0) (Nd (Ii 1) (Nd (Ii 10) (Lf (Ii 8)) Em) (Nd (Ii 0) (Lf (Ii 0)) Em)) (Nd (Ii 8) (Nd (Ii 0) (Lf (Ii 0)) Em) (Nd (Ii 1) (Lf (Ii 9)) Em))) (Nd (Ii 0) odX384 (Nd (Ii 0) (Nd (Ii 1) (Lf (Ii 11)) Em) (Nd (Ii 1) (Lf (Ii 11)) Em)))) odX184) (Nd .nilslice (Nd (Ii 0) (Nd (Ii 0) (Nd (Ii 2) (Nd (Ii 0) (Lf (Ii 2)) Em) (Nd (Ii 0) (Lf (Ii 0)) Em)) odX380) (Nd (Ii 0) odX381 (Nd (Ii 0) (Nd (Ii 1) (Lf (Ii 1)) Em) (Nd (Ii 2) (Lf (Ii 1)) Em)))) odX111)) (Nd Se (Nd .nilslice (Nd (Ii 0) odX232 (Nd (Ii 0) odX394 odX366)) odX111) (Nd .nilslice (Nd (.str [97]) (Nd Se (Nd Se (Nd (.str [98]) (Lf (.str [101,113])) Em) (Nd Se (Lf Se) Em)) (Nd (.str [101,113]) (Nd Se (Lf Se) Em) (Nd Se (Lf (.str [102])) Em))) odX298) odX111)))) 384 false))]
def odL130 : List (Nat × Blk) := [(10002, (Ce (Nd (Ii 0) (Nd (Ii 0) odX11 (Nd (.int .u64 (.ofNat 0)) odX66 (Nd .nilslice (Nd (.int .u64 (.ofNat 0)) (Nd (.int .u64 (.ofNat 0)) odX223 (Nd (.int .u64 (.ofNat 1)) odX438 odX436)) odX133) odX111))) (Nd (Ii 0) (Nd (Ii 0) (Nd Se (Nd (Ii 10) (Nd (Ii 0) (Nd (Ii 1) (Nd (Ii 10) (Lf (Ii 1)) Em) (Nd (Ii 0) (Lf (Ii 0)) Em)) (Nd (Ii 1) (Nd (Ii 0) (Lf (Ii 0)) Em) (Nd (Ii 1) (Lf (Ii 9)) Em))) (Nd (Ii 0) odX384 (Nd (Ii 0) (Nd (Ii 1) (Lf (Ii 10)) Em) (Nd (Ii 1) (Lf (Ii 11)) Em)))) odX184) (Nd .nilslice (Nd (Ii 0) (Nd (Ii 0) odX379 (Nd (Ii 1) (Nd (Ii 0) (Lf (Ii 0)) Em) (Nd (Ii 2) (Lf (Ii 0)) Em))) (Nd (Ii 0) odX381 (Nd (Ii 0) (Nd (Ii 1) (Lf (Ii 0)) Em) (Nd (Ii 2) (Lf (Ii 1)) Em)))) odX111)) (Nd Se (Nd .nilslice (Nd (Ii 0) odX232 (Nd (Ii 0) odX394 odX369)) odX111) (Nd .nilslice (Nd (.str [97]) (Nd Se (Nd Se (Nd (.str [98]) (Lf Se) Em) (Nd Se (Lf Se) Em)) odX439) (Nd Se odX542 (Nd Se (Nd Se (Lf (.str [116,114,117,101])) Em) (Nd Se (Lf Se) Em)))) odX111)))) 384 false))]
def odL131 : List (Nat × Blk) := [(10002, (Ce (Nd (Ii 0) (Nd (Ii 0) (Nd (Ii 0) odX90 (Nd .nilslice odX183 (Nd .nilslice (Nd .nilslice odX412 (Nd .nilslice (Lf (Sn 10003 0 1 1)) (Lf .nilslice))) (Nd .nilslice odX356 odX549)))) (Nd (.int .u64 (.ofNat 0)) odX91 (Nd .nilslice odX92 (Nd .nilslice (Nd .nilslice odX412 odX449) odX267)))) (Nd (Ii 0) (Nd (Ii 0) odX112 (Nd .nilslice odX182 (Nd .nilslice (Nd .nilslice odX412 odX447) odX267))) odX31)) 288 false))]
def odL132 : List (Nat × Blk) := [(10003, (Ce (Lf (Ii 7)) 1 false)), (10004, (Ce (Lf (Ii 1)) 1 false))]
def odL133 : List (Nat × Blk) := [(10005, (Ce (Nd (Ii 0) (Nd (Ii 0) odX115 (Nd (.int .u64 (.ofNat 0)) odX206 odX167)) (Nd (Ii 0) odX148 odX126)) 96 false)), (10006, odX37), (10008, (Ce (Nd (Ii 0) odX52 (Nd (Ii 0) odX146 odX130)) 96 false)), (10009, odX39)]
def odL134 : List (Nat × Blk) := [(10002, (Ce (Nd (Ii 0) (Nd (Ii 0) (Nd (Ii 0) odX90 (Nd .nilslice odX183 odX164)) (Nd (.int .u64 (.ofNat 0)) odX91 (Nd .nilslice odX92 (Nd .nilslice (Nd .nilslice odX412 odX450) odX267)))) (Nd (Ii 0) (Nd (Ii 0) (Nd Se (Nd (Ii 10) (Nd (Ii 0) odX471 (Nd (Ii 12) (Lf (Ii 1)) (Lf (Ii 0)))) (Nd (Ii 0) (Nd (Ii 1) (Nd (Ii 1) (Lf (Ii 11)) Em) (Lf (Ii 10))) (Nd (Ii 0) (Lf (Ii 0)) (Lf (Ii 0))))) odX233) (Nd .nilslice (Nd (Ii 0) odX300 (Nd (Ii 0) (Nd (Ii 1) (Nd (Ii 1) (Lf (Ii 1)) Em) (Lf (Ii 0))) (Nd (Ii 0) (Lf (Ii 0)) (Lf (Ii 0))))) (Nd .nilslice (Nd .nilslice odX412 odX448) odX267))) (Nd Se (Nd .nilslice (Nd (Ii 0) odX301 (Nd (Ii 0) (Nd (Ii 0) (Nd (Ii 0) (Lf (Ii 9)) Em) (Lf (Ii 0))) (Nd (Ii 0) (Lf (Ii 0)) (Lf (Ii 0))))) odX164) (Nd .nilslice (Nd (.str [97]) (Nd Se odX547 (Nd Se (Lf Se) (Lf Se))) (Nd Se odX434 (Nd Se (Lf Se) (Lf Se)))) odX164)))) 288 false)), (10003, (Ce (Nd (Ii 0) (Nd (Ii 0) odX115 (Nd (.int .u64 (.ofNat 0)) odX206 odX168)) (Nd (Ii 0) odX149 odX126)) 96 false)), (10004, odX37), (10006, (Ce (Nd (Ii 0) odX52 (Nd (Ii 0) odX147 odX130)) 96 false)), (10007, odX39)]
def odL135 : List (Nat × Blk) := [(10002, (Ce (Nd (Ii 0) (Nd (Ii 0) (Nd (Ii 0) odX65 (Nd .nilslice odX151 (Nd .nilslice (Nd .nilslice (Nd .nilslice (Nd .nilslice (Lf (Sn 10003 0 1 1)) Em) (Nd .nilslice (Lf .nilslice) Em)) odX331) (Nd .nilslice (Nd (Sn 10004 0 1 1) (Nd .nilslice (Lf .nilslice) Em) (Nd .nilslice (Lf .nilslice) Em)) odX331)))) odX5) (Nd (Ii 0) (Nd (Ii 0) (Nd Se (Nd (Ii 10) (Nd (Ii 0) (Nd (Ii 1) (Nd (Ii 0) (Lf (Ii 8)) Em) (Nd (Ii 10) (Lf (Ii 0)) Em)) odX386) (Nd (Ii 0) (Nd (Ii 8) (Nd (Ii 0) (Lf (Ii 0)) Em) (Nd (Ii 0) (Lf (Ii 0)) Em)) (Nd (Ii 10) (Nd (Ii 0) (Lf (Ii 11)) Em) (Nd (Ii 1) (Lf (Ii 11)) Em)))) odX184) (Nd .nilslice (Nd (Ii 0) odX230 (Nd (Ii 0) odX384 odX388)) odX111)) (Nd Se (Nd .nilslice (Nd (Ii 0) odX232 (Nd (Ii 0) odX394 (Nd (Ii 0) (Nd (Ii 0) (Lf (Ii 8)) Em) (Nd (Ii 0) (Lf (Ii 9)) Em)))) odX111) (Nd .nilslice (Nd (.str [97]) (Nd Se (Nd Se (Nd Se (Lf (.str [110,111,116])) Em) (Nd (.str [100]) (Lf Se) Em)) odX439) (Nd Se (Nd (.str [110,111,116]) (Nd Se (Lf Se) Em) (Nd Se (Lf Se) Em)) odX443)) odX111)))) 384 false))]
def odL136 : List (Nat × Blk) := [(10002, (Ce (Nd (Ii 0) (Nd (Ii 0) odX11 odX5) (Nd (Ii 0) (Nd (Ii 0) (Nd Se (Nd (Ii 10) (Nd (Ii 0) (Nd (Ii 1) (Nd (Ii 0) (Lf (Ii 1)) Em) (Nd (Ii 10) (Lf (Ii 0)) Em)) odX386) (Nd (Ii 0) odX384 (Nd (Ii 10) (Nd (Ii 0) (Lf (Ii 10)) Em) (Nd (Ii 1) (Lf (Ii 11)) Em)))) odX184) (Nd .nilslice (Nd (Ii 0) odX230 (Nd (Ii 0) odX384 odX391)) odX111)) (Nd Se (Nd .nilslice (Nd (Ii 0) odX232 (Nd (Ii 0) odX394 odX392)) odX111) (Nd .nilslice (Nd (.str [97]) (Nd Se (Nd Se (Nd Se (Lf Se) Em) (Nd (.str [100]) (Lf Se) Em)) odX439) (Nd Se odX542 (Nd (.str [99]) (Nd Se (Lf (.str [102,97,108,115,101])) Em) (Nd Se (Lf Se) Em)))) odX111)))) 384 false))]
def odL137 : List (Nat × Blk) := [(10002, (Ce (Nd (Ii 0) (Nd (Ii 0) odX20 (Nd (.int .u64 (.ofNat 0)) odX80 (Nd .nilslice odX86 odX142))) (Nd (Ii 0) (Nd (Ii 0) odX103 (Nd .nilslice odX171 odX140)) odX29)) 320 false))]
def odL138 : List (Nat × Blk) := [(10002, (Ce (Nd (Ii 0) (Nd (Ii 0) odX22 (Nd (.int .u64 (.ofNat 0)) odX80 (Nd .nilslice odX86 odX143))) (Nd (Ii 0) (Nd (Ii 0) odX104 (Nd .nilslice (Nd (Ii 0) odX285 (Nd (Ii 0) odX474 (Nd (Ii 0) (Nd (Ii 1) (Lf (Ii 1)) Em) (Lf (Ii 0))))) odX141)) (Nd Se odX82 (Nd .nilslice (Nd (.str [97]) odX315 (Nd Se (Nd Se (Nd Se (Lf Se) Em) (Lf Se)) odX434)) odX152)))) 320 false))]
def odL139 : List (Nat × Blk) := [(10002, (Ce (Nd (Ii 0) (Nd (Ii 0) (Nd (Ii 0) odX59 (Nd .nilslice odX136 (Nd .nilslice (Nd .nilslice odX306 (Nd (Sn 10003 0 2 1) (Nd .nilslice (Lf (Sn 10004 0 2 1)) Em) (Nd .nilslice (Lf .nilslice) Em))) odX190))) odX4) (Nd (Ii 0) (Nd (Ii 0) (Nd Se (Nd (Ii 10) (Nd (Ii 0) odX340 (Nd (Ii 8) (Nd (Ii 0) (Lf (Ii 8)) Em) (Nd (Ii 0) (Lf (Ii 0)) Em))) (Nd (Ii 0) (Nd (Ii 1) (Nd (Ii 0) (Lf (Ii 1)) (Lf (Ii 11))) (Nd (Ii 10) (Lf (Ii 11)) Em)) odX387)) odX180) (Nd .nilslice (Nd (Ii 0) odX216 (Nd (Ii 0) (Nd (Ii 1) (Nd (Ii 0) (Lf (Ii 1)) (Lf (Ii 1))) (Nd (Ii 0) (Lf (Ii 1)) Em)) odX387)) odX106)) (Nd Se (Nd .nilslice (Nd (Ii 0) odX218 (Nd (Ii 0) (Nd (Ii 0) (Nd (Ii 0) (Lf (Ii 0)) (Lf (Ii 11))) (Nd (Ii 0) (Lf (Ii 10)) Em)) odX394)) odX106) (Nd .nilslice (Nd (.str [97]) (Nd Se odX353 (Nd (.str [97,110,100]) (Nd Se (Lf (.str [97,110,100])) Em) (Nd Se (Lf Se) Em))) (Nd Se (Nd Se (Nd Se (Lf Se) (Lf Se)) (Nd (.str [100]) (Lf Se) Em)) odX542)) odX106)))) 416 false))]
def odL140 : List (Nat × Blk) := [(10003, (Ce (Nd (Ii 1) (Lf (Ii 2)) Em) 2 false)), (10004, (Ce (Nd (Ii 8) (Lf (Ii 9)) Em) 2 false))]
def odL141 : List (Nat × Blk) := [(10002, (Ce (Nd (Ii 0) (Nd (Ii 0) odX8 odX4) (Nd (Ii 0) (Nd (Ii 0) (Nd Se (Nd (Ii 10) (Nd (Ii 0) odX340 odX382) (Nd (Ii 0) (Nd (Ii 1) (Nd (Ii 0) (Lf (Ii 1)) (Lf (Ii 11))) (Nd (Ii 10) (Lf (Ii 10)) Em)) odX387)) odX180) (Nd .nilslice (Nd (Ii 0) odX216 (Nd (Ii 0) (Nd (Ii 1) (Nd (Ii 0) (Lf (Ii 1)) (Lf (Ii 1))) (Nd (Ii 0) (Lf (Ii 0)) Em)) odX387)) odX106)) (Nd Se (Nd .nilslice (Nd (Ii 0) odX218 (Nd (Ii 0) (Nd (Ii 0) (Nd (Ii 0) (Lf (Ii 0)) (Lf (Ii 11))) (Nd (Ii 0) (Lf (Ii 0)) Em)) odX394)) odX106) (Nd .nilslice (Nd (.str [97]) (Nd Se odX353 odX542) (Nd Se (Nd Se (Nd Se (Lf Se) (Lf Se)) (Nd (.str [100]) (Lf (.str [102,97,108,115,101])) Em)) odX542)) odX106)))) 416 false))]
def odL142 : List (Nat × Blk) := [(10002, (Ce (Nd (Ii 0) (Nd (Ii 0) (Nd (Ii 0) odX59 (Nd .nilslice odX136 (Nd .nilslice (Nd .nilslice (Nd .nilslice odX453 (Nd .nilslice (Lf .nilslice) Em)) (Nd .nilslice (Nd .nilslice (Lf (Sn 10004 0 2 1)) Em) (Nd .nilslice (Lf .nilslice) Em))) (Nd .nilslice (Nd .nilslice (Nd (Sn 10005 0 2 1) (Lf (Sn 10006 0 2 1)) (Lf .nilslice)) (Nd .nilslice (Lf .nilslice) Em)) odX331)))) (Nd (.int .u64 (.ofNat 0)) odX60 (Nd .nilslice odX62 (Nd .nilslice (Nd .nilslice odX306 (Nd .nilslice (Nd (Sn 10007 0 6 16) (Lf .nilslice) Em) (Nd .nilslice (Lf .nilslice) Em))) odX190)))) (Nd (Ii 0) (Nd (Ii 0) odX84 (Nd .nilslice odX135 (Nd .nilslice (Nd .nilslice odX306 (Nd .nilslice (Nd (Sn 10010 0 6 16) (Lf .nilslice) Em) (Nd .nilslice (Lf .nilslice) Em))) odX190))) odX9)) 416 false)), (10007, (Ce (Nd (Ii 0) (Nd (Ii 0) odX115 (Nd (.int .u64 (.ofNat 0)) odX204 (Nd .nilslice odX226 (Nd .nilslice (Nd .nilslice (Lf .nilslice) Em) (Nd .nilslice (Lf (Sn 10008 0 4 16)) Em))))) (Nd (Ii 0) (Nd (Ii 0) odX268 (Nd .nilslice odX390 (Nd .nilslice (Nd .nilslice (Lf .nilslice) Em) (Nd .nilslice (Lf (Sn 10009 0 2 16)) Em)))) odX123)) 96 false)), (10008, odX35), (10009, odX93), (10010, (Ce (Nd (Ii 0) odX50 (Nd (Ii 0) (Nd (Ii 0) odX268 (Nd .nilslice odX390 (Nd .nilslice (Nd .nilslice (Lf .nilslice) Em) (Nd .nilslice (Lf (Sn 10011 0 4 16)) Em)))) odX125)) 96 false)), (10011, odX36)]
def odL143 : List (Nat × Blk) := [(10003, (Ce (Nd (Ii 2) (Lf (Ii 3)) Em) 2 false)), (10004, (Ce (Nd (Ii 10) (Lf (Ii 13)) Em) 2 false)), (10005, (Ce (Nd (Ii 1) (Lf (Ii 4)) Em) 2 false)), (10006, (Ce (Nd (Ii 11) (Lf (Ii 12)) Em) 2 false))]
def odL144 : List (Nat × Blk) := [(10002, (Ce (Nd (Ii 0) (Nd (Ii 0) odX8 (Nd (.int .u64 (.ofNat 0)) odX60 (Nd .nilslice (Nd (.int .u64 (.ofNat 0)) (Nd (.int .u64 (.ofNat 0)) (Nd (.int .u64 (.ofNat 0)) (Nd (.int .u64 (.ofNat 1)) (Lf (.int .u64 (.ofNat 2))) (Lf (.int .u64 (.ofNat 0)))) odX438) odX223) (Nd (.int .u64 (.ofNat 0)) (Nd (.int .u64 (.ofNat 0)) odX326 odX438) odX222)) (Nd .nilslice (Nd .nilslice odX306 (Nd .nilslice (Nd (Sn 10003 0 6 16) (Lf .nilslice) Em) (Nd .nilslice (Lf .nilslice) Em))) odX190)))) (Nd (Ii 0) (Nd (Ii 0) (Nd Se (Nd (Ii 10) (Nd (Ii 0) (Nd (Ii 1) (Nd (Ii 1) (Lf (Ii 1)) (Lf (Ii 9))) (Nd (Ii 0) (Lf (Ii 0)) Em)) (Nd (Ii 1) (Nd (Ii 12) (Lf (Ii 1)) Em) (Nd (Ii 0) (Lf (Ii 0)) Em))) (Nd (Ii 0) (Nd (Ii 0) (Nd (Ii 1) (Lf (Ii 1)) (Lf (Ii 11))) (Nd (Ii 1) (Lf (Ii 10)) Em)) odX383)) odX180) (Nd .nilslice (Nd (Ii 0) (Nd (Ii 0) (Nd (Ii 1) (Nd (Ii 1) (Lf (Ii 2)) (Lf (Ii 0))) (Nd (Ii 0) (Lf (Ii 0)) Em)) odX379) (Nd (Ii 0) (Nd (Ii 0) (Nd (Ii 1) (Lf (Ii 1)) (Lf (Ii 1))) (Nd (Ii 1) (Lf (Ii 0)) Em)) odX380)) (Nd .nilslice (Nd .nilslice odX306 (Nd .nilslice (Nd (Sn 10006 0 6 16) (Lf .nilslice) Em) (Nd .nilslice (Lf .nilslice) Em))) odX190))) (Nd Se (Nd .nilslice (Nd (Ii 0) odX217 (Nd (Ii 0) (Nd (Ii 0) (Nd (Ii 0) (Lf (Ii 0)) (Lf (Ii 15))) (Nd (Ii 0) (Lf (Ii 0)) Em)) odX394)) odX106) (Nd .nilslice (Nd (.str [97]) (Nd Se odX433 odX542) (Nd Se (Nd Se (Nd Se (Lf Se) (Lf Se)) (Nd Se (Lf (.str [116,114,117,101])) Em)) odX542)) odX106)))) 416 false)), (10003, (Ce (Nd (Ii 0) (Nd (Ii 0) odX115 (Nd (.int .u64 (.ofNat 0)) odX204 odX168)) (Nd (Ii 0) odX149 odX123)) 96 false)), (10004, odX35), (10006, (Ce (Nd (Ii 0) odX50 (Nd (Ii 0) odX147 odX125)) 96 false)), (10007, odX36)]
def odL145 : List (Nat × Blk) := [(10002, (Ce (Nd (Ii 0) (Nd (Ii 0) (Nd (Ii 0) odX47 (Nd .nilslice odX113 (Nd .nilslice (Nd .nilslice (Nd .nilslice odX453 odX549) (Nd .nilslice odX549 (Nd .nilslice (Lf (Sn 10004 0 2 1)) Em))) (Nd .nilslice (Nd .nilslice (Nd (Sn 10005 0 2 1) (Lf .nilslice) (Lf .nilslice)) (Nd .nilslice (Lf (Sn 10006 0 2 1)) (Lf .nilslice))) odX306)))) (Nd (.int .u64 (.ofNat 0)) odX48 (Nd .nilslice (Nd (.int .u64 (.ofNat 0)) (Nd (.int .u64 (.ofNat 0)) (Nd (.int .u64 (.ofNat 0)) odX330 odX328) (Nd (.int .u64 (.ofNat 1)) odX330 odX438)) (Nd (.int .u64 (.ofNat 0)) odX186 odX200)) odX96))) (Nd (Ii 0) (Nd (Ii 0) (Nd Se (Nd (Ii 10) (Nd (Ii 0) (Nd (Ii 1) (Nd (Ii 8) (Lf (Ii 0)) (Lf (Ii 0))) (Nd (Ii 0) (Lf (Ii 1)) (Lf (Ii 9)))) (Nd (Ii 1) (Nd (Ii 0) (Lf (Ii 0)) (Lf (Ii 0))) (Nd (Ii 1) (Lf (Ii 8)) Em))) (Nd (Ii 0) (Nd (Ii 0) (Nd (Ii 8) (Lf (Ii 1)) (Lf (Ii 11))) (Nd (Ii 0) (Lf (Ii 8)) (Lf (Ii 11)))) odX341)) odX174) (Nd .nilslice (Nd (Ii 0) (Nd (Ii 0) (Nd (Ii 1) (Nd (Ii 2) (Lf (Ii 0)) (Lf (Ii 0))) (Nd (Ii 0) (Lf (Ii 2)) (Lf (Ii 0)))) odX343) (Nd (Ii 0) (Nd (Ii 0) (Nd (Ii 1) (Lf (Ii 1)) (Lf (Ii 1))) (Nd (Ii 0) (Lf (Ii 2)) (Lf (Ii 1)))) odX342)) odX96)) (Nd Se (Nd .nilslice (Nd (Ii 0) odX199 (Nd (Ii 0) (Nd (Ii 0) (Nd (Ii 0) (Lf (Ii 0)) (Lf (Ii 14))) (Nd (Ii 0) (Lf (Ii 0)) (Lf (Ii 15)))) odX346)) odX96) (Nd .nilslice (Nd (.str [97]) (Nd Se (Nd Se (Nd (.str [108,116]) (Lf Se) (Lf Se)) (Nd Se (Lf Se) (Lf (.str [102])))) (Nd Se (Nd Se (Lf Se) (Lf Se)) (Nd Se (Lf (.str [111,114])) Em))) (Nd Se (Nd Se (Nd (.str [111,114]) (Lf Se) (Lf Se)) (Nd Se (Lf (.str [108,116])) (Lf Se))) odX435)) odX96)))) 480 false))]
def odL146 : List (Nat × Blk) := [(10002, (Ce (Nd (Ii 0) (Nd (Ii 0) (Nd (Ii 0) odX47 (Nd .nilslice odX113 odX96)) (Nd (.int .u64 (.ofNat 0)) odX48 (Nd .nilslice (Nd (.int .u64 (.ofNat 0)) (Nd (.int .u64 (.ofNat 0)) (Nd (.int .u64 (.ofNat 0)) odX327 odX328) (Nd (.int .u64 (.ofNat 1)) odX330 odX437)) (Nd (.int .u64 (.ofNat 0)) (Nd (.int .u64 (.ofNat 0)) odX327 odX329) odX200)) odX96))) (Nd (Ii 0) (Nd (Ii 0) (Nd Se (Nd (Ii 10) (Nd (Ii 0) (Nd (Ii 1) (Nd (Ii 1) (Lf (Ii 0)) (Lf (Ii 0))) (Nd (Ii 0) (Lf (Ii 1)) (Lf (Ii 9)))) (Nd (Ii 1) (Nd (Ii 0) (Lf (Ii 0)) (Lf (Ii 0))) (Nd (Ii 1) (Lf (Ii 1)) Em))) (Nd (Ii 0) (Nd (Ii 0) (Nd (Ii 1) (Lf (Ii 1)) (Lf (Ii 10))) (Nd (Ii 0) (Lf (Ii 1)) (Lf (Ii 11)))) odX341)) odX174) (Nd .nilslice (Nd (Ii 0) (Nd (Ii 0) (Nd (Ii 1) (Nd (Ii 1) (Lf (Ii 0)) (Lf (Ii 0))) (Nd (Ii 0) (Lf (Ii 2)) (Lf (Ii 0)))) odX343) (Nd (Ii 0) (Nd (Ii 0) (Nd (Ii 1) (Lf (Ii 1)) (Lf (Ii 0))) (Nd (Ii 0) (Lf (Ii 1)) (Lf (Ii 1)))) odX342)) odX96)) (Nd Se (Nd .nilslice (Nd (Ii 0) odX199 (Nd (Ii 0) (Nd (Ii 0) (Nd (Ii 0) (Lf (Ii 0)) (Lf (Ii 0))) (Nd (Ii 0) (Lf (Ii 0)) (Lf (Ii 15)))) odX346)) odX96) (Nd .nilslice (Nd (.str [97]) (Nd Se odX370 odX457) (Nd Se (Nd Se (Nd Se (Lf Se) (Lf (.str [116,114,117,101]))) (Nd Se (Lf Se) (Lf Se))) odX435)) odX96)))) 480 false))]
def odL147 : List (Nat × Blk) := [(10002, (Ce (Nd (Ii 0) (Nd (Ii 0) odX55 (Nd (.int .u64 (.ofNat 0)) odX109 (Nd .nilslice odX110 (Nd .nilslice (Nd .nilslice odX450 (Nd .nilslice (Lf .nilslice) Em)) odX306)))) (Nd (Ii 0) (Nd (Ii 0) odX155 (Nd .nilslice odX212 (Nd .nilslice (Nd .nilslice odX448 (Nd .nilslice (Lf .nilslice) Em)) odX306))) odX61)) 224 false)), (10003, (Ce (Nd (Ii 0) (Nd (Ii 0) odX115 (Nd (.int .u64 (.ofNat 0)) odX208 odX168)) (Nd (Ii 0) odX149 odX129)) 96 false)), (10004, odX39), (10006, (Ce (Nd (Ii 0) odX54 (Nd (Ii 0) odX147 odX132)) 96 false)), (10007, odX41)]
def odL148 : List (Nat × Blk) := [(10002, (Ce (Nd (Ii 0) (Nd (Ii 0) odX55 (Nd (.int .u64 (.ofNat 0)) odX109 (Nd .nilslice odX110 (Nd .nilslice (Nd .nilslice (Nd (Sn 10003 0 7 16) (Lf .nilslice) (Lf .nilslice)) (Nd .nilslice (Lf .nilslice) Em)) odX306)))) (Nd (Ii 0) (Nd (Ii 0) odX155 (Nd .nilslice odX212 (Nd .nilslice (Nd .nilslice (Nd (Sn 10004 0 5 16) (Lf .nilslice) (Lf .nilslice)) (Nd .nilslice (Lf .nilslice) Em)) odX306))) odX61)) 224 false)), (10003, (Ce (Nd (Ii 0) (Nd (Ii 0) odX107 (Nd (.int .u64 (.ofNat 0)) (Nd .nilslice (Nd (Ii 0) (Nd (Ii 0) (Lf (Ii 3)) (Lf (Ii 0))) (Nd (Ii 0) (Lf (Ii 0)) Em)) odX306) odX160)) odX63) 112 false)), (10004, (Ce (Nd (Ii 0) (Nd (Ii 0) odX154 (Nd (.int .u64 (.ofNat 0)) odX261 odX187)) odX89) 80 false))]
def odL149 : List (Nat × Blk) := [(10002, (Ce (Nd (Ii 0) (Nd (Ii 0) odX42 odX24) (Nd (Ii 0) odX56 odX46)) 256 false))]
def odL150 : List (Nat × Blk) := [(10003, (Ce (Nd (Ii 0) (Lf (Ii 0)) Em) 2 false)), (10004, (Ce (Nd (Ii 0) (Lf (Ii 0)) Em) 2 false))]
def odL151 : List (Nat × Blk) := [(10005, (Ce (Nd (Ii 0) (Nd (Ii 0) odX115 (Nd (.int .u64 (.ofNat 0)) odX207 odX167)) (Nd (Ii 0) odX148 odX127)) 96 false)), (10006, odX38), (10008, (Ce (Nd (Ii 0) odX53 (Nd (Ii 0) odX146 odX131)) 96 false)), (10009, odX40)]
def odL152 : List (Nat × Blk) := [(10002, (Ce (Nd (Ii 0) (Nd (Ii 0) odX42 odX23) (Nd (Ii 0) odX57 odX46)) 256 false))]
def odL153 : List (Nat × Blk) := [(10005, (Ce (Nd (Ii 0) (Nd (Ii 0) odX107 (Nd (.int .u64 (.ofNat 0)) (Nd .nilslice (Nd (Ii 0) (Nd (Ii 0) (Lf (Ii 4)) (Lf (Ii 0))) (Nd (Ii 0) (Lf (Ii 0)) Em)) odX306) odX160)) odX63) 112 false)), (10006, (Ce (Nd (Ii 0) (Nd (Ii 0) odX154 (Nd (.int .u64 (.ofNat 0)) (Nd .nilslice (Nd (Ii 0) (Nd (Ii 0) (Lf (Ii 2)) Em) (Lf (Ii 0))) odX412) odX187)) odX89) 80 false))]
def odL154 : List (Nat × Blk) := [(10002, (Ce (Nd (Ii 0) (Nd (Ii 0) odX43 odX24) (Nd (Ii 0) odX56 odX45)) 256 false))]
def odL155 : List (Nat × Blk) := [(10003, (Ce (Lf (Ii 0)) 1 false)), (10004, (Ce (Lf (Ii 0)) 1 false))]
def odL156 : List (Nat × Blk) := [(10002, (Ce (Nd (Ii 0) (Nd (Ii 0) odX43 odX23) (Nd (Ii 0) odX57 odX45)) 256 false))]
def odL157 : List (Nat × Blk) := [(10000, (Ce (Nd (Pp 3170 0) (Lf (Sl 10001 0 1 1 2)) Em) 2)), (10001, (Ce (Nd (Ii 12) (Lf (Sn 10002 0 22 16)) Em) 2))]
def odL158 : List (Nat × Blk) := [(10002, (Ce (Nd (Ii 0) (Nd (Ii 0) odX14 (Nd (.int .u64 (.ofNat 0)) odX73 odX33)) (Nd (Ii 0) odX26 odX16)) 352 false))]
def odL159 : List (Nat × Blk) := [(10002, (Ce (Nd (Ii 0) (Nd (Ii 0) odX14 (Nd (.int .u64 (.ofNat 0)) odX73 odX32)) (Nd (Ii 0) odX27 odX16)) 352 false))]
def odL160 : List (Nat × Blk) := [(10005, (Ce (Nd (Ii 0) (Nd (Ii 0) odX107 (Nd (.int .u64 (.ofNat 0)) (Nd .nilslice (Nd (Ii 0) (Nd (Ii 0) (Lf (Ii 6)) (Lf (Ii 0))) (Nd (Ii 0) (Lf (Ii 0)) Em)) odX306) odX160)) odX63) 112 false)), (10006, (Ce (Nd (Ii 0) (Nd (Ii 0) odX154 (Nd (.int .u64 (.ofNat 0)) (Nd .nilslice (Nd (Ii 0) (Nd (Ii 0) (Lf (Ii 4)) Em) (Lf (Ii 0))) odX412) odX187)) odX89) 80 false))]
def odL161 : List (Nat × Blk) := [(10002, (Ce (Nd (Ii 0) (Nd (Ii 0) odX14 (Nd (.int .u64 (.ofNat 0)) odX73 (Nd .nilslice odX76 odX119))) (Nd (Ii 0) odX26 odX18)) 352 false))]
def odL162 : List (Nat × Blk) := [(10002, (Ce (Nd (Ii 0) (Nd (Ii 0) odX14 (Nd (.int .u64 (.ofNat 0)) odX73 (Nd .nilslice odX76 odX118))) (Nd (Ii 0) odX27 odX18)) 352 false))]
def odL163 : List (Nat × Blk) := [(10002, (Ce (Nd (Ii 0) (Nd (Ii 0) odX13 (Nd (.int .u64 (.ofNat 0)) odX75 odX33)) (Nd (Ii 0) (Nd (Ii 0) odX95 (Nd .nilslice odX162 odX116)) odX17)) 352 false))]
def odL164 : List (Nat × Blk) := [(10002, (Ce (Nd (Ii 0) (Nd (Ii 0) odX13 (Nd (.int .u64 (.ofNat 0)) odX75 odX32)) (Nd (Ii 0) (Nd (Ii 0) odX95 (Nd .nilslice odX162 odX117)) odX17)) 352 false))]
def odL165 : List (Nat × Blk) := [(10002, (Ce (Nd (Ii 0) (Nd (Ii 0) odX10 (Nd (.int .u64 (.ofNat 0)) odX67 (Nd .nilslice odX68 (Nd .nilslice odX197 (Nd .nilslice odX314 odX331))))) (Nd (Ii 0) (Nd (Ii 0) odX88 (Nd .nilslice odX150 (Nd .nilslice odX197 (Nd .nilslice odX311 odX331)))) odX12)) 384 false))]
def odL166 : List (Nat × Blk) := [(10002, (Ce (Nd (Ii 0) (Nd (Ii 0) odX10 (Nd (.int .u64 (.ofNat 0)) odX67 (Nd .nilslice odX68 (Nd .nilslice odX197 (Nd .nilslice odX313 odX331))))) (Nd (Ii 0) (Nd (Ii 0) odX88 (Nd .nilslice odX150 (Nd .nilslice odX197 (Nd .nilslice odX312 odX331)))) odX12)) 384 false))]
def odL167 : List (Nat × Blk) := [(10000, (Ce (Nd (Pp 3168 0) (Lf (Sl 10001 0 1 1 2)) Em) 2)), (10001, (Ce (Nd (Ii 10) (Lf (Sn 10002 0 20 16)) Em) 2))]
def odL168 : List (Nat × Blk) := [(10002, (Ce (Nd (Ii 0) (Nd (Ii 0) odX19 (Nd (.int .u64 (.ofNat 0)) odX83 (Nd .nilslice odX87 odX142))) (Nd (Ii 0) (Nd (Ii 0) odX105 (Nd .nilslice odX172 odX140)) odX25)) 320 false))]
def odL169 : List (Nat × Blk) := [(10002, (Ce (Nd (Ii 0) (Nd (Ii 0) odX19 (Nd (.int .u64 (.ofNat 0)) odX83 (Nd .nilslice odX87 (Nd .nilslice odX234 (Nd .nilslice odX412 (Nd (Sn 10005 0 7 16) (Nd .nilslice (Lf .nilslice) Em) (Lf .nilslice))))))) (Nd (Ii 0) (Nd (Ii 0) odX105 (Nd .nilslice odX172 (Nd .nilslice odX234 (Nd .nilslice odX412 (Nd (Sn 10006 0 5 16) (Nd .nilslice (Lf .nilslice) Em) (Lf .nilslice)))))) odX25)) 320 false)), (10005, (Ce (Nd (Ii 0) (Nd (Ii 0) odX107 (Nd (.int .u64 (.ofNat 0)) (Nd .nilslice (Nd (Ii 0) (Nd (Ii 0) (Lf (Ii 5)) (Lf (Ii 0))) (Nd (Ii 0) (Lf (Ii 0)) Em)) odX306) odX160)) odX63) 112 false)), (10006, (Ce (Nd (Ii 0) (Nd (Ii 0) odX154 (Nd (.int .u64 (.ofNat 0)) (Nd .nilslice (Nd (Ii 0) (Nd (Ii 0) (Lf (Ii 3)) Em) (Lf (Ii 0))) odX412) odX187)) odX89) 80 false))]
def odL170 : List (Nat × Blk) := [(11245, odX213)]
def odL171 : List (Nat × Blk) := [(11152, odX213)]
def odL172 : List (Nat × Blk) := [(11250, odX191)]
def odL173 : List (Nat × Blk) := [(11165, odX191)]
def odL174 : List (Nat × Blk) := [(11273, odX213)]
def odL175 : List (Nat × Blk) := [(11269, odX213)]
def odL176 : List (Nat × Blk) := [(11180, odX213)]
def odL177 : List (Nat × Blk) := [(11176, odX213)]
def odL178 : List (Nat × Blk) := [(11266, odX191)]
def odL179 : List (Nat × Blk) := [(11262, odX191)]
def odL180 : List (Nat × Blk) := [(11181, odX191)]
def odL181 : List (Nat × Blk) := [(11177, odX191)]
def odL182 : List (Nat × Blk) := [(11278, odX191)]
def odL183 : List (Nat × Blk) := [(11274, odX191)]
def odL184 : List (Nat × Blk) := [(11193, odX191)]
def odL185 : List (Nat × Blk) := [(11189, odX191)]
def odL186 : List (Nat × Blk) := [(11313, odX213)]
def odL187 : List (Nat × Blk) := [(11305, odX213)]
def odL188 : List (Nat × Blk) := [(11220, odX213)]
def odL189 : List (Nat × Blk) := [(11212, odX213)]
def odL190 : List (Nat × Blk) := [(11249, odX213)]
def odL191 : List (Nat × Blk) := [(11198, odX213)]
def odL192 : List (Nat × Blk) := [(11322, odX191)]
def odL193 : List (Nat × Blk) := [(11268, odX191)]
def odL194 : List (Nat × Blk) := [(11317, odX213)]
def odL195 : List (Nat × Blk) := [(11266, odX213)]
def odL196 : List (Nat × Blk) := [(11366, odX191)]
def odL197 : List (Nat × Blk) := [(11312, odX191)]
def odL198 : List (Nat × Blk) := [(11310, odX196)]
def odL199 : List (Nat × Blk) := [(11256, odX196)]
def odY0 : List (Nat × Blk) := ([(3110, (Ce (Lf (Sn 3113 0 1 7)) 1 false)), (3129, (Ce (Lf (Sn 3132 0 1 7)) 1 false))] ++ (odL54 ++ (odL55 ++ (odL52 ++ odL53))))
def odY1 : List (Nat × Blk) := ([(3110, (Ce (Lf (Sn 3113 0 1 7)) 1 false)), (3129, (Ce (Lf (Sn 3132 0 1 7)) 1 false))] ++ (odL56 ++ (odL55 ++ (odL52 ++ odL53))))
def odY2 : List (Nat × Blk) := ([(3081, (Ce (Lf (Sn 3084 0 3 7)) 1 false)), (3124, (Ce (Lf (Sn 3127 0 1 7)) 1 false)), (3152, (Ce (Lf (Sn 3155 0 1 7)) 1 false))] ++ (odL58 ++ (odL57 ++ (odL59 ++ (odL60 ++ odL53)))))
def odY3 : List (Nat × Blk) := ([(3081, (Ce (Lf (Sn 3084 0 2 7)) 1 false)), (3101, (Ce (Lf (Sn 3104 0 1 7)) 1 false))] ++ (odL61 ++ (odL62 ++ (odL63 ++ (odL52 ++ odL53)))))
def odY4 : List (Nat × Blk) := ([(3081, (Ce (Lf (Sn 3084 0 3 7)) 1 false)), (3124, (Ce (Lf (Sn 3127 0 1 7)) 1 false)), (3152, (Ce (Lf (Sn 3155 0 1 7)) 1 false))] ++ (odL64 ++ (odL60 ++ (odL52 ++ odL53))))
def odY5 : List (Nat × Blk) := ([(3081, (Ce (Lf (Sn 3084 0 3 7)) 1 false)), (3101, (Ce (Lf (Sn 3104 0 1 7)) 1 false)), (3110, (Ce (Lf (Sn 3113 0 1 7)) 1 false))] ++ (odL65 ++ (odL57 ++ odL53)))
def odY6 : List (Nat × Blk) := ([(3110, (Ce (Lf (Sn 3113 0 1 7)) 1 false)), (3129, (Ce (Lf (Sn 3132 0 1 7)) 1 false))] ++ (odL66 ++ (odL55 ++ (odL52 ++ odL53))))
def odY7 : List (Nat × Blk) := ([(3081, (Ce (Lf (Sn 3084 0 3 7)) 1 false)), (3124, (Ce (Lf (Sn 3127 0 1 7)) 1 false)), (3152, (Ce (Lf (Sn 3155 0 1 7)) 1 false))] ++ (odL67 ++ (odL59 ++ (odL60 ++ (odL52 ++ odL53)))))
def odY8 : List (Nat × Blk) := ([(3081, (Ce (Lf (Sn 3084 0 2 7)) 1 false)), (3101, (Ce (Lf (Sn 3104 0 1 7)) 1 false))] ++ (odL68 ++ (odL62 ++ (odL63 ++ (odL52 ++ odL53)))))
def odY9 : List (Nat × Blk) := ([(3081, (Ce (Lf (Sn 3084 0 3 7)) 1 false))] ++ (odL70 ++ (odL69 ++ (odL71 ++ (odL72 ++ (odL52 ++ odL53))))))
def odY10 : List (Nat × Blk) := ([(3081, (Ce (Lf (Sn 3084 0 3 7)) 1 false))] ++ (odL73 ++ (odL71 ++ (odL72 ++ (odL52 ++ odL53)))))
def odY11 : List (Nat × Blk) := ([(3081, (Ce (Lf (Sn 3084 0 3 7)) 1 false))] ++ (odL74 ++ (odL69 ++ (odL75 ++ (odL72 ++ (odL52 ++ odL53))))))
def odY12 : List (Nat × Blk) := ([(3081, (Ce (Lf (Sn 3084 0 3 7)) 1 false)), (3124, (Ce (Lf (Sn 3127 0 1 7)) 1 false))] ++ (odL76 ++ (odL75 ++ (odL63 ++ (odL52 ++ odL53)))))
def odY13 : List (Nat × Blk) := ([(3081, (Ce (Lf (Sn 3084 0 2 7)) 1 false)), (3129, (Ce (Lf (Sn 3132 0 1 7)) 1 false)), (3152, (Ce (Lf (Sn 3155 0 1 7)) 1 false))] ++ (odL77 ++ (odL75 ++ (odL52 ++ odL53))))
def odY14 : List (Nat × Blk) := (odL79 ++ odL78)
def odY15 : List (Nat × Blk) := (odL80 ++ odL78)
def odY16 : List (Nat × Blk) := (odL83 ++ (odL81 ++ odL82))
def odY17 : List (Nat × Blk) := (odL85 ++ (odL81 ++ odL82))
def odY18 : List (Nat × Blk) := (odL86 ++ odL82)
def odY19 : List (Nat × Blk) := (odL91 ++ odL90)
def odY20 : List (Nat × Blk) := (odL92 ++ odL90)
def odY21 : List (Nat × Blk) := (odL93 ++ odL90)
def odY22 : List (Nat × Blk) := ([(7007, (Ce (Lf (Ii 0)) 1 false))] ++ odL99)
def odY23 : List (Nat × Blk) := (odL2 ++ (odL4 ++ (odL3 ++ odL99)))
def odY24 : List (Nat × Blk) := ([(7007, (Ce (Lf (Ii 1)) 1 false))] ++ odL101)
def odY25 : List (Nat × Blk) := (odL8 ++ (odL7 ++ (odL3 ++ odL99)))
def odY26 : List (Nat × Blk) := ([(7007, (Ce (Lf (Ii 1)) 1 false))] ++ odL102)
def odY27 : List (Nat × Blk) := (odL10 ++ (odL15 ++ (odL12 ++ (odL11 ++ odL99))))
def odY28 : List (Nat × Blk) := ([(7007, (Ce (Lf (Ii 1)) 1 false))] ++ odL103)
def odY29 : List (Nat × Blk) := (odL17 ++ (odL22 ++ (odL18 ++ odL99)))
def odY30 : List (Nat × Blk) := ([(7007, (Ce (Lf (Ii 1)) 1 false))] ++ odL104)
def odY31 : List (Nat × Blk) := (odL23 ++ (odL16 ++ (odL11 ++ odL99)))
def odY32 : List (Nat × Blk) := ([(7007, (Ce (Lf (Ii 1)) 1 false))] ++ odL105)
def odY33 : List (Nat × Blk) := ([(2103, (Ce (Lf (Sn 2102 0 3 7)) 1))] ++ (odL25 ++ odL99))
def odY34 : List (Nat × Blk) := ([(7007, (Ce (Lf (Ii 1)) 1 false))] ++ odL106)
def odY35 : List (Nat × Blk) := (odL31 ++ (odL15 ++ (odL12 ++ (odL11 ++ odL99))))
def odY36 : List (Nat × Blk) := ([(7007, (Ce (Lf (Ii 1)) 1 false))] ++ odL107)
def odY37 : List (Nat × Blk) := (odL37 ++ (odL36 ++ (odL43 ++ (odL42 ++ (odL38 ++ odL99)))))
def odY38 : List (Nat × Blk) := ([(7007, (Ce (Lf (Ii 3)) 1 false))] ++ odL108)
def odY39 : List (Nat × Blk) := (odL44 ++ (odL36 ++ (odL39 ++ (odL38 ++ odL99))))
def odY40 : List (Nat × Blk) := ([(7007, (Ce (Lf (Ii 3)) 1 false))] ++ odL109)
def odY41 : List (Nat × Blk) := (odL46 ++ (odL43 ++ (odL42 ++ (odL38 ++ odL99))))
def odY42 : List (Nat × Blk) := ([(2103, (Ce (Lf (Sn 2102 0 3 7)) 1))] ++ (odL47 ++ odL99))
def odY43 : List (Nat × Blk) := (odL49 ++ odL99)
def odY44 : List (Nat × Blk) := ([(7007, (Ce (Lf (Ii 3)) 1 false))] ++ odL111)
def odY45 : List (Nat × Blk) := ([(9001, (.map []))] ++ odL112)
def odY46 : List (Nat × Blk) := ([(10000, odX486), (10001, odX545)] ++ (odL113 ++ (odL114 ++ odL115)))
def odY47 : List (Nat × Blk) := ([(10000, odX486), (10001, odX545)] ++ (odL116 ++ (odL114 ++ odL115)))
def odY48 : List (Nat × Blk) := ([(10000, odX486), (10001, odX544)] ++ odL117)
def odY49 : List (Nat × Blk) := ([(10000, odX486), (10001, odX544)] ++ odL118)
def odY50 : List (Nat × Blk) := ([(10000, odX486), (10001, odX545)] ++ (odL119 ++ (odL114 ++ odL115)))
def odY51 : List (Nat × Blk) := ([(10000, odX486), (10001, odX545)] ++ (odL120 ++ (odL114 ++ odL115)))
def odY52 : List (Nat × Blk) := ([(10000, odX486), (10001, odX543)] ++ odL121)
def odY53 : List (Nat × Blk) := ([(10000, odX486), (10001, odX543)] ++ odL122)
def odY54 : List (Nat × Blk) := ([(10000, odX484), (10001, odX539)] ++ (odL123 ++ (odL125 ++ (odL124 ++ odL126))))
def odY55 : List (Nat × Blk) := ([(10000, odX484), (10001, odX539)] ++ (odL127 ++ (odL128 ++ odL115)))
def odY56 : List (Nat × Blk) := ([(10000, odX484), (10001, odX538)] ++ (odL129 ++ odL124))
def odY57 : List (Nat × Blk) := ([(10000, odX484), (10001, odX538)] ++ odL130)
def odY58 : List (Nat × Blk) := ([(10000, odX485), (10001, odX541)] ++ (odL131 ++ (odL133 ++ (odL132 ++ odL126))))
def odY59 : List (Nat × Blk) := ([(10000, odX485), (10001, odX541)] ++ (odL134 ++ odL115))
def odY60 : List (Nat × Blk) := ([(10000, odX485), (10001, odX540)] ++ (odL135 ++ odL132))
def odY61 : List (Nat × Blk) := ([(10000, odX485), (10001, odX540)] ++ odL136)
def odY62 : List (Nat × Blk) := ([(10000, odX484), (10001, odX539)] ++ (odL137 ++ (odL125 ++ (odL124 ++ odL126))))
def odY63 : List (Nat × Blk) := ([(10000, odX484), (10001, odX539)] ++ (odL138 ++ (odL128 ++ odL115)))
def odY64 : List (Nat × Blk) := ([(10000, odX484), (10001, odX537)] ++ (odL139 ++ odL140))
def odY65 : List (Nat × Blk) := ([(10000, odX484), (10001, odX537)] ++ odL141)
def odY66 : List (Nat × Blk) := ([(10000, odX483), (10001, odX536)] ++ (odL142 ++ odL143))
def odY67 : List (Nat × Blk) := ([(10000, odX483), (10001, odX536)] ++ (odL144 ++ odL115))
def odY68 : List (Nat × Blk) := ([(10000, odX483), (10001, odX535)] ++ (odL145 ++ odL143))
def odY69 : List (Nat × Blk) := ([(10000, odX483), (10001, odX535)] ++ odL146)
def odY70 : List (Nat × Blk) := ([(10000, odX486), (10001, odX546)] ++ (odL147 ++ odL115))
def odY71 : List (Nat × Blk) := ([(10000, odX486), (10001, odX546)] ++ odL148)
def odY72 : List (Nat × Blk) := ([(10000, odX484), (10001, odX545)] ++ (odL149 ++ (odL150 ++ (odL151 ++ odL126))))
def odY73 : List (Nat × Blk) := ([(10000, odX484), (10001, odX545)] ++ (odL152 ++ (odL150 ++ odL153)))
def odY74 : List (Nat × Blk) := ([(10000, odX485), (10001, odX545)] ++ (odL154 ++ (odL155 ++ (odL151 ++ odL126))))
def odY75 : List (Nat × Blk) := ([(10000, odX485), (10001, odX545)] ++ (odL156 ++ (odL155 ++ odL153)))
def odY76 : List (Nat × Blk) := (odL158 ++ (odL125 ++ (odL157 ++ (odL124 ++ odL126))))
def odY77 : List (Nat × Blk) := (odL159 ++ (odL160 ++ (odL157 ++ odL124)))
def odY78 : List (Nat × Blk) := (odL161 ++ (odL125 ++ (odL157 ++ (odL124 ++ odL126))))
def odY79 : List (Nat × Blk) := (odL162 ++ (odL160 ++ (odL157 ++ odL124)))
def odY80 : List (Nat × Blk) := (odL163 ++ (odL125 ++ (odL157 ++ (odL124 ++ odL126))))
def odY81 : List (Nat × Blk) := (odL164 ++ (odL160 ++ (odL157 ++ odL124)))
def odY82 : List (Nat × Blk) := ([(10000, odX482), (10001, odX538)] ++ (odL165 ++ (odL140 ++ (odL125 ++ odL126))))
def odY83 : List (Nat × Blk) := ([(10000, odX482), (10001, odX538)] ++ (odL166 ++ (odL140 ++ odL160)))
def odY84 : List (Nat × Blk) := (odL168 ++ (odL133 ++ (odL167 ++ (odL132 ++ odL126))))
def odY85 : List (Nat × Blk) := (odL169 ++ (odL167 ++ odL132))
def odY86 : List (Nat × Blk) := ([(9001, (.map [((.str [102]), (Ii 1))]))] ++ odL170)
def odY87 : List (Nat × Blk) := ([(9001, (.map [((.str [102]), (Ii 1))]))] ++ odL171)
def odY88 : List (Nat × Blk) := ([(9001, (.map [((.str [102]), (Ii 1))]))] ++ odL172)
def odY89 : List (Nat × Blk) := ([(9001, (.map [((.str [102]), (Ii 1))]))] ++ odL173)
def odY90 : List (Nat × Blk) := ([(9001, (.map [((.str [102]), (Ii 1))]))] ++ odL174)
def odY91 : List (Nat × Blk) := ([(9001, (.map [((.str [102]), (Ii 1))]))] ++ odL175)
def odY92 : List (Nat × Blk) := ([(9001, (.map [((.str [102]), (Ii 1))]))] ++ odL176)
def odY93 : List (Nat × Blk) := ([(9001, (.map [((.str [102]), (Ii 1))]))] ++ odL177)
def odY94 : List (Nat × Blk) := ([(9001, (.map [((.str [102]), (Ii 1))]))] ++ odL178)
def odY95 : List (Nat × Blk) := ([(9001, (.map [((.str [102]), (Ii 1))]))] ++ odL179)
def odY96 : List (Nat × Blk) := ([(9001, (.map [((.str [102]), (Ii 1))]))] ++ odL180)
def odY97 : List (Nat × Blk) := ([(9001, (.map [((.str [102]), (Ii 1))]))] ++ odL181)
def odY98 : List (Nat × Blk) := ([(9001, (.map [((.str [102]), (Ii 1))]))] ++ odL182)
def odY99 : List (Nat × Blk) := ([(9001, (.map [((.str [102]), (Ii 1))]))] ++ odL183)
def odY100 : List (Nat × Blk) := ([(9001, (.map [((.str [102]), (Ii 1))]))] ++ odL184)
def odY101 : List (Nat × Blk) := ([(9001, (.map [((.str [102]), (Ii 1))]))] ++ odL185)
def odY102 : List (Nat × Blk) := ([(9001, (.map [((.str [102]), (Ii 1))]))] ++ odL186)
def odY103 : List (Nat × Blk) := ([(9001, (.map [((.str [102]), (Ii 1))]))] ++ odL187)
def odY104 : List (Nat × Blk) := ([(9001, (.map [((.str [102]), (Ii 1))]))] ++ odL188)
def odY105 : List (Nat × Blk) := ([(9001, (.map [((.str [102]), (Ii 1))]))] ++ odL189)
def odY106 : List (Nat × Blk) := ([(9001, (.map [((.str [102]), (Ii 1))]))] ++ odL190)
def odY107 : List (Nat × Blk) := ([(9001, (.map [((.str [102]), (Ii 1))]))] ++ odL191)
def odY108 : List (Nat × Blk) := ([(9001, (.map [((.str [102]), (Ii 3))]))] ++ odL192)
def odY109 : List (Nat × Blk) := ([(9001, (.map [((.str [102]), (Ii 3))]))] ++ odL193)
def odY110 : List (Nat × Blk) := ([(9001, (.map [((.str [102]), (Ii 3))]))] ++ odL194)
def odY111 : List (Nat × Blk) := ([(9001, (.map [((.str [102]), (Ii 3))]))] ++ odL195)
def odY112 : List (Nat × Blk) := ([(9001, (.map [((.str [102]), (Ii 5))]))] ++ odL196)
def odY113 : List (Nat × Blk) := ([(9001, (.map [((.str [102]), (Ii 5))]))] ++ odL197)
def odY114 : List (Nat × Blk) := ([(9001, (.map [((.str [102]), (Ii 3))]))] ++ odL198)
def odY115 : List (Nat × Blk) := ([(9001, (.map [((.str [102]), (Ii 3))]))] ++ odL199)
def odY116 : List (Nat × Blk) := (odL98 ++ odL51)
def odY117 : List (Nat × Blk) := (odL100 ++ odL51)
def g8_0 : List Cert := [⟨0, [], [], [], 265, Tt, []⟩]
def l8 : List Cert := g8_0
def g12_0 : List CertN := [⟨1000, [odX352, odS12, odX445, (Sl 270 0 1 1 3), (.cls 16 0)], odY116, [], Tt, []⟩,
 ⟨1000, [odX352, odS12, odX446, (Sl 270 0 1 1 3), (.cls 16 0)], odY116, [], Tt, []⟩,
 ⟨1000, [odX352, odS12, odX445, (Sl 270 0 1 1 3), (.cls 16 1)], odY116, [], Tt, []⟩,
 ⟨1000, [odX352, odS12, odX446, (Sl 270 0 1 1 3), (.cls 16 1)], odY116, [], Tt, []⟩,
 ⟨1000, [odX352, odS12, odX445, (Sl 270 0 1 1 3), (.cls 16 2)], odY116, [], Tt, []⟩,
 ⟨1000, [odX352, odS12, odX446, (Sl 270 0 1 1 3), (.cls 16 2)], odY116, [], Tt, []⟩,
 ⟨1000, [odX352, odS12, odX445, (Sl 270 0 1 1 3), (.cls 16 3)], odY116, [], Tt, []⟩,
 ⟨1000, [odX352, odS12, odX446, (Sl 270 0 1 1 3), (.cls 16 3)], odY116, [], Tt, []⟩,
 ⟨1000, [odX352, odS12, odX445, (Sl 270 0 1 1 3), (.cls 16 4)], odY116, [], Tt, []⟩,
 ⟨1000, [odX352, odS12, odX446, (Sl 270 0 1 1 3), (.cls 16 4)], odY116, [], Tt, []⟩,
 ⟨1000, [odX352, odS12, odX445, (Sl 270 0 1 1 3), (.cls 16 5)], odY116, [], Tt, []⟩,
 ⟨1000, [odX352, odS12, odX446, (Sl 270 0 1 1 3), (.cls 16 5)], odY116, [], Tt, []⟩,
 ⟨1000, [odX352, odS12, odX445, (Sl 270 0 1 1 3), (.cls 16 6)], odY116, [], Tt, []⟩,
 ⟨1000, [odX352, odS12, odX446, (Sl 270 0 1 1 3), (.cls 16 6)], odY116, [], Tt, []⟩,
 ⟨1000, [odX352, odS12, odX445, (Sl 270 0 1 1 3), (.cls 16 7)], odY116, [], Tt, []⟩,
 ⟨1000, [odX352, odS12, odX446, (Sl 270 0 1 1 3), (.cls 16 7)], odY116, [], Tt, []⟩,
 ⟨1000, [odX352, odS12, odX445, (Sl 270 0 1 1 3), (.cls 16 8)], odY116, [], Tt, []⟩,
 ⟨1000, [odX352, odS12, odX446, (Sl 270 0 1 1 3), (.cls 16 8)], odY116, [], Tt, []⟩,
 ⟨1000, [odX352, odS12, odX445, (Sl 270 0 1 1 3), (.cls 16 9)], odY116, [], Tt, []⟩,
 ⟨1000, [odX352, odS12, odX446, (Sl 270 0 1 1 3), (.cls 16 9)], odY116, [], Tt, []⟩,
 ⟨1000, [odX352, odS12, odX445, (Sl 270 0 1 1 3), (.cls 16 10)], odY116, [], Tt, []⟩,
 ⟨1000, [odX352, odS12, odX446, (Sl 270 0 1 1 3), (.cls 16 10)], odY116, [], Tt, []⟩,
 ⟨1000, [odX352, odS12, odX445, (Sl 270 0 1 1 3), (.cls 16 11)], odY116, [], Tt, []⟩,
 ⟨1000, [odX352, odS12, odX446, (Sl 270 0 1 1 3), (.cls 16 11)], odY116, [], Tt, []⟩,
 ⟨1000, [odX352, odS12, odX445, (Sl 270 0 1 1 3), (.cls 16 12)], odY116, [], Tt, []⟩,
 ⟨1000, [odX352, odS12, odX446, (Sl 270 0 1 1 3), (.cls 16 12)], odY116, [], Tt, []⟩,
 ⟨1000, [odX352, odS12, odX445, (Sl 270 0 1 1 3), (.cls 16 13)], odY116, [], Tt, []⟩,
 ⟨1000, [odX352, odS12, odX446, (Sl 270 0 1 1 3), (.cls 16 13)], odY116, [], Tt, []⟩]
def g12_1 : List CertN := [⟨1000, [odX352, odS12, odX445, (Sl 270 0 1 1 3), (.cls 16 14)], odY116, [], Tt, []⟩,
 ⟨1000, [odX352, odS12, odX446, (Sl 270 0 1 1 3), (.cls 16 14)], odY116, [], Tt, []⟩,
 ⟨1000, [odX352, odS12, odX445, (Sl 270 0 1 1 3), (.cls 16 15)], odY116, [], Tt, []⟩,
 ⟨1000, [odX352, odS12, odX446, (Sl 270 0 1 1 3), (.cls 16 15)], odY116, [], Tt, []⟩,
 ⟨1000, [odX352, odS10, odX446, (Sl 270 0 1 1 3), (.cls 16 0)], odY116, [], Tt, []⟩,
 ⟨1000, [odX352, odS10, odX445, (Sl 270 0 1 1 3), (.cls 16 0)], odY116, [], Tt, []⟩,
 ⟨1000, [odX352, odS10, odX446, (Sl 270 0 1 1 3), (.cls 16 1)], odY116, [], Tt, []⟩,
 ⟨1000, [odX352, odS10, odX445, (Sl 270 0 1 1 3), (.cls 16 1)], odY116, [], Tt, []⟩,
 ⟨1000, [odX352, odS10, odX446, (Sl 270 0 1 1 3), (.cls 16 2)], odY116, [], Tt, []⟩,
 ⟨1000, [odX352, odS10, odX445, (Sl 270 0 1 1 3), (.cls 16 2)], odY116, [], Tt, []⟩,
 ⟨1000, [odX352, odS10, odX446, (Sl 270 0 1 1 3), (.cls 16 3)], odY116, [], Tt, []⟩,
 ⟨1000, [odX352, odS10, odX445, (Sl 270 0 1 1 3), (.cls 16 3)], odY116, [], Tt, []⟩,
 ⟨1000, [odX352, odS10, odX446, (Sl 270 0 1 1 3), (.cls 16 4)], odY116, [], Tt, []⟩,
 ⟨1000, [odX352, odS10, odX445, (Sl 270 0 1 1 3), (.cls 16 4)], odY116, [], Tt, []⟩,
 ⟨1000, [odX352, odS10, odX446, (Sl 270 0 1 1 3), (.cls 16 5)], odY116, [], Tt, []⟩,
 ⟨1000, [odX352, odS10, odX445, (Sl 270 0 1 1 3), (.cls 16 5)], odY116, [], Tt, []⟩,
 ⟨1000, [odX352, odS10, odX446, (Sl 270 0 1 1 3), (.cls 16 6)], odY116, [], Tt, []⟩,
 ⟨1000, [odX352, odS10, odX445, (Sl 270 0 1 1 3), (.cls 16 6)], odY116, [], Tt, []⟩,
 ⟨1000, [odX352, odS10, odX446, (Sl 270 0 1 1 3), (.cls 16 7)], odY116, [], Tt, []⟩,
 ⟨1000, [odX352, odS10, odX445, (Sl 270 0 1 1 3), (.cls 16 7)], odY116, [], Tt, []⟩,
 ⟨1000, [odX352, odS10, odX446, (Sl 270 0 1 1 3), (.cls 16 8)], odY116, [], Tt, []⟩,
 ⟨1000, [odX352, odS10, odX445, (Sl 270 0 1 1 3), (.cls 16 8)], odY116, [], Tt, []⟩,
 ⟨1000, [odX352, odS10, odX446, (Sl 270 0 1 1 3), (.cls 16 9)], odY116, [], Tt, []⟩,
 ⟨1000, [odX352, odS10, odX445, (Sl 270 0 1 1 3), (.cls 16 9)], odY116, [], Tt, []⟩,
 ⟨1000, [odX352, odS10, odX446, (Sl 270 0 1 1 3), (.cls 16 10)], odY116, [], Tt, []⟩,
 ⟨1000, [odX352, odS10, odX445, (Sl 270 0 1 1 3), (.cls 16 10)], odY116, [], Tt, []⟩,
 ⟨1000, [odX352, odS10, odX446, (Sl 270 0 1 1 3), (.cls 16 11)], odY116, [], Tt, []⟩,
 ⟨1000, [odX352, odS10, odX445, (Sl 270 0 1 1 3), (.cls 16 11)], odY116, [], Tt, []⟩]
def g12_2 : List CertN := [⟨1000, [odX352, odS10, odX446, (Sl 270 0 1 1 3), (.cls 16 12)], odY116, [], Tt, []⟩,
 ⟨1000, [odX352, odS10, odX445, (Sl 270 0 1 1 3), (.cls 16 12)], odY116, [], Tt, []⟩,
 ⟨1000, [odX352, odS10, odX446, (Sl 270 0 1 1 3), (.cls 16 13)], odY116, [], Tt, []⟩,
 ⟨1000, [odX352, odS10, odX445, (Sl 270 0 1 1 3), (.cls 16 13)], odY116, [], Tt, []⟩,
 ⟨1000, [odX352, odS10, odX446, (Sl 270 0 1 1 3), (.cls 16 14)], odY116, [], Tt, []⟩,
 ⟨1000, [odX352, odS10, odX445, (Sl 270 0 1 1 3), (.cls 16 14)], odY116, [], Tt, []⟩,
 ⟨1000, [odX352, odS10, odX446, (Sl 270 0 1 1 3), (.cls 16 15)], odY116, [], Tt, []⟩,
 ⟨1000, [odX352, odS10, odX445, (Sl 270 0 1 1 3), (.cls 16 15)], odY116, [], Tt, []⟩,
 ⟨1000, [odX352, odS8, odX445, (Sl 270 0 1 1 3), (.cls 16 0)], odY116, [], Tt, []⟩,
 ⟨1000, [odX352, odS8, odX446, (Sl 270 0 1 1 3), (.cls 16 0)], odY116, [], Tt, []⟩,
 ⟨1000, [odX352, odS8, odX445, (Sl 270 0 1 1 3), (.cls 16 1)], odY116, [], Tt, []⟩,
 ⟨1000, [odX352, odS8, odX446, (Sl 270 0 1 1 3), (.cls 16 1)], odY116, [], Tt, []⟩,
 ⟨1000, [odX352, odS8, odX445, (Sl 270 0 1 1 3), (.cls 16 2)], odY116, [], Tt, []⟩,
 ⟨1000, [odX352, odS8, odX446, (Sl 270 0 1 1 3), (.cls 16 2)], odY116, [], Tt, []⟩,
 ⟨1000, [odX352, odS8, odX445, (Sl 270 0 1 1 3), (.cls 16 3)], odY116, [], Tt, []⟩,
 ⟨1000, [odX352, odS8, odX446, (Sl 270 0 1 1 3), (.cls 16 3)], odY116, [], Tt, []⟩,
 ⟨1000, [odX352, odS8, odX445, (Sl 270 0 1 1 3), (.cls 16 4)], odY116, [], Tt, []⟩,
 ⟨1000, [odX352, odS8, odX446, (Sl 270 0 1 1 3), (.cls 16 4)], odY116, [], Tt, []⟩,
 ⟨1000, [odX352, odS8, odX445, (Sl 270 0 1 1 3), (.cls 16 5)], odY116, [], Tt, []⟩,
 ⟨1000, [odX352, odS8, odX446, (Sl 270 0 1 1 3), (.cls 16 5)], odY116, [], Tt, []⟩,
 ⟨1000, [odX352, odS8, odX445, (Sl 270 0 1 1 3), (.cls 16 6)], odY116, [], Tt, []⟩,
 ⟨1000, [odX352, odS8, odX446, (Sl 270 0 1 1 3), (.cls 16 6)], odY116, [], Tt, []⟩,
 ⟨1000, [odX352, odS8, odX445, (Sl 270 0 1 1 3), (.cls 16 7)], odY116, [], Tt, []⟩,
 ⟨1000, [odX352, odS8, odX446, (Sl 270 0 1 1 3), (.cls 16 7)], odY116, [], Tt, []⟩,
 ⟨1000, [odX352, odS8, odX445, (Sl 270 0 1 1 3), (.cls 16 8)], odY116, [], Tt, []⟩,
 ⟨1000, [odX352, odS8, odX446, (Sl 270 0 1 1 3), (.cls 16 8)], odY116, [], Tt, []⟩,
 ⟨1000, [odX352, odS8, odX445, (Sl 270 0 1 1 3), (.cls 16 9)], odY116, [], Tt, []⟩,
 ⟨1000, [odX352, odS8, odX446, (Sl 270 0 1 1 3), (.cls 16 9)], odY116, [], Tt, []⟩]
def g12_3 : List CertN := [⟨1000, [odX352, odS8, odX445, (Sl 270 0 1 1 3), (.cls 16 10)], odY116, [], Tt, []⟩,
 ⟨1000, [odX352, odS8, odX446, (Sl 270 0 1 1 3), (.cls 16 10)], odY116, [], Tt, []⟩,
 ⟨1000, [odX352, odS8, odX445, (Sl 270 0 1 1 3), (.cls 16 11)], odY116, [], Tt, []⟩,
 ⟨1000, [odX352, odS8, odX446, (Sl 270 0 1 1 3), (.cls 16 11)], odY116, [], Tt, []⟩,
 ⟨1000, [odX352, odS8, odX445, (Sl 270 0 1 1 3), (.cls 16 12)], odY116, [], Tt, []⟩,
 ⟨1000, [odX352, odS8, odX446, (Sl 270 0 1 1 3), (.cls 16 12)], odY116, [], Tt, []⟩,
 ⟨1000, [odX352, odS8, odX445, (Sl 270 0 1 1 3), (.cls 16 13)], odY116, [], Tt, []⟩,
 ⟨1000, [odX352, odS8, odX446, (Sl 270 0 1 1 3), (.cls 16 13)], odY116, [], Tt, []⟩,
 ⟨1000, [odX352, odS8, odX445, (Sl 270 0 1 1 3), (.cls 16 14)], odY116, [], Tt, []⟩,
 ⟨1000, [odX352, odS8, odX446, (Sl 270 0 1 1 3), (.cls 16 14)], odY116, [], Tt, []⟩,
 ⟨1000, [odX352, odS8, odX445, (Sl 270 0 1 1 3), (.cls 16 15)], odY116, [], Tt, []⟩,
 ⟨1000, [odX352, odS8, odX446, (Sl 270 0 1 1 3), (.cls 16 15)], odY116, [], Tt, []⟩,
 ⟨1000, [odX352, odS6, odX446, (Sl 270 0 1 1 3), (.cls 16 0)], odY116, [], Tt, []⟩,
 ⟨1000, [odX352, odS6, odX445, (Sl 270 0 1 1 3), (.cls 16 0)], odY116, [], Tt, []⟩,
 ⟨1000, [odX352, odS6, odX446, (Sl 270 0 1 1 3), (.cls 16 1)], odY116, [], Tt, []⟩,
 ⟨1000, [odX352, odS6, odX445, (Sl 270 0 1 1 3), (.cls 16 1)], odY116, [], Tt, []⟩,
 ⟨1000, [odX352, odS6, odX446, (Sl 270 0 1 1 3), (.cls 16 2)], odY116, [], Tt, []⟩,
 ⟨1000, [odX352, odS6, odX445, (Sl 270 0 1 1 3), (.cls 16 2)], odY116, [], Tt, []⟩,
 ⟨1000, [odX352, odS6, odX446, (Sl 270 0 1 1 3), (.cls 16 3)], odY116, [], Tt, []⟩,
 ⟨1000, [odX352, odS6, odX445, (Sl 270 0 1 1 3), (.cls 16 3)], odY116, [], Tt, []⟩,
 ⟨1000, [odX352, odS6, odX446, (Sl 270 0 1 1 3), (.cls 16 4)], odY116, [], Tt, []⟩,
 ⟨1000, [odX352, odS6, odX445, (Sl 270 0 1 1 3), (.cls 16 4)], odY116, [], Tt, []⟩,
 ⟨1000, [odX352, odS6, odX446, (Sl 270 0 1 1 3), (.cls 16 5)], odY116, [], Tt, []⟩,
 ⟨1000, [odX352, odS6, odX445, (Sl 270 0 1 1 3), (.cls 16 5)], odY116, [], Tt, []⟩,
 ⟨1000, [odX352, odS6, odX446, (Sl 270 0 1 1 3), (.cls 16 6)], odY116, [], Tt, []⟩,
 ⟨1000, [odX352, odS6, odX445, (Sl 270 0 1 1 3), (.cls 16 6)], odY116, [], Tt, []⟩,
 ⟨1000, [odX352, odS6, odX446, (Sl 270 0 1 1 3), (.cls 16 7)], odY116, [], Tt, []⟩,
 ⟨1000, [odX352, odS6, odX445, (Sl 270 0 1 1 3), (.cls 16 7)], odY116, [], Tt, []⟩]
def g12_4 : List CertN := [⟨1000, [odX352, odS6, odX446, (Sl 270 0 1 1 3), (.cls 16 8)], odY116, [], Tt, []⟩,
 ⟨1000, [odX352, odS6, odX445, (Sl 270 0 1 1 3), (.cls 16 8)], odY116, [], Tt, []⟩,
 ⟨1000, [odX352, odS6, odX446, (Sl 270 0 1 1 3), (.cls 16 9)], odY116, [], Tt, []⟩,
 ⟨1000, [odX352, odS6, odX445, (Sl 270 0 1 1 3), (.cls 16 9)], odY116, [], Tt, []⟩,
 ⟨1000, [odX352, odS6, odX446, (Sl 270 0 1 1 3), (.cls 16 10)], odY116, [], Tt, []⟩,
 ⟨1000, [odX352, odS6, odX445, (Sl 270 0 1 1 3), (.cls 16 10)], odY116, [], Tt, []⟩,
 ⟨1000, [odX352, odS6, odX446, (Sl 270 0 1 1 3), (.cls 16 11)], odY116, [], Tt, []⟩,
 ⟨1000, [odX352, odS6, odX445, (Sl 270 0 1 1 3), (.cls 16 11)], odY116, [], Tt, []⟩,
 ⟨1000, [odX352, odS6, odX446, (Sl 270 0 1 1 3), (.cls 16 12)], odY116, [], Tt, []⟩,
 ⟨1000, [odX352, odS6, odX445, (Sl 270 0 1 1 3), (.cls 16 12)], odY116, [], Tt, []⟩,
 ⟨1000, [odX352, odS6, odX446, (Sl 270 0 1 1 3), (.cls 16 13)], odY116, [], Tt, []⟩,
 ⟨1000, [odX352, odS6, odX445, (Sl 270 0 1 1 3), (.cls 16 13)], odY116, [], Tt, []⟩,
 ⟨1000, [odX352, odS6, odX446, (Sl 270 0 1 1 3), (.cls 16 14)], odY116, [], Tt, []⟩,
 ⟨1000, [odX352, odS6, odX445, (Sl 270 0 1 1 3), (.cls 16 14)], odY116, [], Tt, []⟩,
 ⟨1000, [odX352, odS6, odX446, (Sl 270 0 1 1 3), (.cls 16 15)], odY116, [], Tt, []⟩,
 ⟨1000, [odX352, odS6, odX445, (Sl 270 0 1 1 3), (.cls 16 15)], odY116, [], Tt, []⟩,
 ⟨1000, [odX352, odS1, odX445, (Sl 270 0 1 1 3), (.cls 16 0)], odY116, [], Tt, []⟩,
 ⟨1000, [odX352, odS1, odX446, (Sl 270 0 1 1 3), (.cls 16 0)], odY116, [], Tt, []⟩,
 ⟨1000, [odX352, odS1, odX445, (Sl 270 0 1 1 3), (.cls 16 1)], odY116, [], Tt, []⟩,
 ⟨1000, [odX352, odS1, odX446, (Sl 270 0 1 1 3), (.cls 16 1)], odY116, [], Tt, []⟩,
 ⟨1000, [odX352, odS1, odX445, (Sl 270 0 1 1 3), (.cls 16 2)], odY116, [], Tt, []⟩,
 ⟨1000, [odX352, odS1, odX446, (Sl 270 0 1 1 3), (.cls 16 2)], odY116, [], Tt, []⟩,
 ⟨1000, [odX352, odS1, odX445, (Sl 270 0 1 1 3), (.cls 16 3)], odY116, [], Tt, []⟩,
 ⟨1000, [odX352, odS1, odX446, (Sl 270 0 1 1 3), (.cls 16 3)], odY116, [], Tt, []⟩,
 ⟨1000, [odX352, odS1, odX445, (Sl 270 0 1 1 3), (.cls 16 4)], odY116, [], Tt, []⟩,
 ⟨1000, [odX352, odS1, odX446, (Sl 270 0 1 1 3), (.cls 16 4)], odY116, [], Tt, []⟩,
 ⟨1000, [odX352, odS1, odX445, (Sl 270 0 1 1 3), (.cls 16 5)], odY116, [], Tt, []⟩,
 ⟨1000, [odX352, odS1, odX446, (Sl 270 0 1 1 3), (.cls 16 5)], odY116, [], Tt, []⟩]
def g12_5 : List CertN := [⟨1000, [odX352, odS1, odX445, (Sl 270 0 1 1 3), (.cls 16 6)], odY116, [], Tt, []⟩,
 ⟨1000, [odX352, odS1, odX446, (Sl 270 0 1 1 3), (.cls 16 6)], odY116, [], Tt, []⟩,
 ⟨1000, [odX352, odS1, odX445, (Sl 270 0 1 1 3), (.cls 16 7)], odY116, [], Tt, []⟩,
 ⟨1000, [odX352, odS1, odX446, (Sl 270 0 1 1 3), (.cls 16 7)], odY116, [], Tt, []⟩,
 ⟨1000, [odX352, odS1, odX445, (Sl 270 0 1 1 3), (.cls 16 8)], odY116, [], Tt, []⟩,
 ⟨1000, [odX352, odS1, odX446, (Sl 270 0 1 1 3), (.cls 16 8)], odY116, [], Tt, []⟩,
 ⟨1000, [odX352, odS1, odX445, (Sl 270 0 1 1 3), (.cls 16 9)], odY116, [], Tt, []⟩,
 ⟨1000, [odX352, odS1, odX446, (Sl 270 0 1 1 3), (.cls 16 9)], odY116, [], Tt, []⟩,
 ⟨1000, [odX352, odS1, odX445, (Sl 270 0 1 1 3), (.cls 16 10)], odY116, [], Tt, []⟩,
 ⟨1000, [odX352, odS1, odX446, (Sl 270 0 1 1 3), (.cls 16 10)], odY116, [], Tt, []⟩,
 ⟨1000, [odX352, odS1, odX445, (Sl 270 0 1 1 3), (.cls 16 11)], odY116, [], Tt, []⟩,
 ⟨1000, [odX352, odS1, odX446, (Sl 270 0 1 1 3), (.cls 16 11)], odY116, [], Tt, []⟩,
 ⟨1000, [odX352, odS1, odX445, (Sl 270 0 1 1 3), (.cls 16 12)], odY116, [], Tt, []⟩,
 ⟨1000, [odX352, odS1, odX446, (Sl 270 0 1 1 3), (.cls 16 12)], odY116, [], Tt, []⟩,
 ⟨1000, [odX352, odS1, odX445, (Sl 270 0 1 1 3), (.cls 16 13)], odY116, [], Tt, []⟩,
 ⟨1000, [odX352, odS1, odX446, (Sl 270 0 1 1 3), (.cls 16 13)], odY116, [], Tt, []⟩,
 ⟨1000, [odX352, odS1, odX445, (Sl 270 0 1 1 3), (.cls 16 14)], odY116, [], Tt, []⟩,
 ⟨1000, [odX352, odS1, odX446, (Sl 270 0 1 1 3), (.cls 16 14)], odY116, [], Tt, []⟩,
 ⟨1000, [odX352, odS1, odX445, (Sl 270 0 1 1 3), (.cls 16 15)], odY116, [], Tt, []⟩,
 ⟨1000, [odX352, odS1, odX446, (Sl 270 0 1 1 3), (.cls 16 15)], odY116, [], Tt, []⟩,
 ⟨1000, [odX352, odS0, odX446, (Sl 270 0 1 1 3), (.cls 16 0)], odY116, [], Tt, []⟩,
 ⟨1000, [odX352, odS0, odX445, (Sl 270 0 1 1 3), (.cls 16 0)], odY116, [], Tt, []⟩,
 ⟨1000, [odX352, odS0, odX446, (Sl 270 0 1 1 3), (.cls 16 1)], odY116, [], Tt, []⟩,
 ⟨1000, [odX352, odS0, odX445, (Sl 270 0 1 1 3), (.cls 16 1)], odY116, [], Tt, []⟩,
 ⟨1000, [odX352, odS0, odX446, (Sl 270 0 1 1 3), (.cls 16 2)], odY116, [], Tt, []⟩,
 ⟨1000, [odX352, odS0, odX445, (Sl 270 0 1 1 3), (.cls 16 2)], odY116, [], Tt, []⟩,
 ⟨1000, [odX352, odS0, odX446, (Sl 270 0 1 1 3), (.cls 16 3)], odY116, [], Tt, []⟩,
 ⟨1000, [odX352, odS0, odX445, (Sl 270 0 1 1 3), (.cls 16 3)], odY116, [], Tt, []⟩]
def g12_6 : List CertN := [⟨1000, [odX352, odS0, odX446, (Sl 270 0 1 1 3), (.cls 16 4)], odY116, [], Tt, []⟩,
 ⟨1000, [odX352, odS0, odX445, (Sl 270 0 1 1 3), (.cls 16 4)], odY116, [], Tt, []⟩,
 ⟨1000, [odX352, odS0, odX446, (Sl 270 0 1 1 3), (.cls 16 5)], odY116, [], Tt, []⟩,
 ⟨1000, [odX352, odS0, odX445, (Sl 270 0 1 1 3), (.cls 16 5)], odY116, [], Tt, []⟩,
 ⟨1000, [odX352, odS0, odX446, (Sl 270 0 1 1 3), (.cls 16 6)], odY116, [], Tt, []⟩,
 ⟨1000, [odX352, odS0, odX445, (Sl 270 0 1 1 3), (.cls 16 6)], odY116, [], Tt, []⟩,
 ⟨1000, [odX352, odS0, odX446, (Sl 270 0 1 1 3), (.cls 16 7)], odY116, [], Tt, []⟩,
 ⟨1000, [odX352, odS0, odX445, (Sl 270 0 1 1 3), (.cls 16 7)], odY116, [], Tt, []⟩,
 ⟨1000, [odX352, odS0, odX446, (Sl 270 0 1 1 3), (.cls 16 8)], odY116, [], Tt, []⟩,
 ⟨1000, [odX352, odS0, odX445, (Sl 270 0 1 1 3), (.cls 16 8)], odY116, [], Tt, []⟩,
 ⟨1000, [odX352, odS0, odX446, (Sl 270 0 1 1 3), (.cls 16 9)], odY116, [], Tt, []⟩,
 ⟨1000, [odX352, odS0, odX445, (Sl 270 0 1 1 3), (.cls 16 9)], odY116, [], Tt, []⟩,
 ⟨1000, [odX352, odS0, odX446, (Sl 270 0 1 1 3), (.cls 16 10)], odY116, [], Tt, []⟩,
 ⟨1000, [odX352, odS0, odX445, (Sl 270 0 1 1 3), (.cls 16 10)], odY116, [], Tt, []⟩,
 ⟨1000, [odX352, odS0, odX446, (Sl 270 0 1 1 3), (.cls 16 11)], odY116, [], Tt, []⟩,
 ⟨1000, [odX352, odS0, odX445, (Sl 270 0 1 1 3), (.cls 16 11)], odY116, [], Tt, []⟩,
 ⟨1000, [odX352, odS0, odX446, (Sl 270 0 1 1 3), (.cls 16 12)], odY116, [], Tt, []⟩,
 ⟨1000, [odX352, odS0, odX445, (Sl 270 0 1 1 3), (.cls 16 12)], odY116, [], Tt, []⟩,
 ⟨1000, [odX352, odS0, odX446, (Sl 270 0 1 1 3), (.cls 16 13)], odY116, [], Tt, []⟩,
 ⟨1000, [odX352, odS0, odX445, (Sl 270 0 1 1 3), (.cls 16 13)], odY116, [], Tt, []⟩,
 ⟨1000, [odX352, odS0, odX446, (Sl 270 0 1 1 3), (.cls 16 14)], odY116, [], Tt, []⟩,
 ⟨1000, [odX352, odS0, odX445, (Sl 270 0 1 1 3), (.cls 16 14)], odY116, [], Tt, []⟩,
 ⟨1000, [odX352, odS0, odX446, (Sl 270 0 1 1 3), (.cls 16 15)], odY116, [], Tt, []⟩,
 ⟨1000, [odX352, odS0, odX445, (Sl 270 0 1 1 3), (.cls 16 15)], odY116, [], Tt, []⟩,
 ⟨1000, [odX352, odS13, odX445, (Sl 270 0 1 1 3), (.cls 16 0)], odY116, [], Tt, []⟩,
 ⟨1000, [odX352, odS13, odX446, (Sl 270 0 1 1 3), (.cls 16 0)], odY116, [], Tt, []⟩,
 ⟨1000, [odX352, odS13, odX445, (Sl 270 0 1 1 3), (.cls 16 1)], odY116, [], Tt, []⟩,
 ⟨1000, [odX352, odS13, odX446, (Sl 270 0 1 1 3), (.cls 16 1)], odY116, [], Tt, []⟩]
def g12_7 : List CertN := [⟨1000, [odX352, odS13, odX445, (Sl 270 0 1 1 3), (.cls 16 2)], odY116, [], Tt, []⟩,
 ⟨1000, [odX352, odS13, odX446, (Sl 270 0 1 1 3), (.cls 16 2)], odY116, [], Tt, []⟩,
 ⟨1000, [odX352, odS13, odX445, (Sl 270 0 1 1 3), (.cls 16 3)], odY116, [], Tt, []⟩,
 ⟨1000, [odX352, odS13, odX446, (Sl 270 0 1 1 3), (.cls 16 3)], odY116, [], Tt, []⟩,
 ⟨1000, [odX352, odS13, odX445, (Sl 270 0 1 1 3), (.cls 16 4)], odY116, [], Tt, []⟩,
 ⟨1000, [odX352, odS13, odX446, (Sl 270 0 1 1 3), (.cls 16 4)], odY116, [], Tt, []⟩,
 ⟨1000, [odX352, odS13, odX445, (Sl 270 0 1 1 3), (.cls 16 5)], odY116, [], Tt, []⟩,
 ⟨1000, [odX352, odS13, odX446, (Sl 270 0 1 1 3), (.cls 16 5)], odY116, [], Tt, []⟩,
 ⟨1000, [odX352, odS13, odX445, (Sl 270 0 1 1 3), (.cls 16 6)], odY116, [], Tt, []⟩,
 ⟨1000, [odX352, odS13, odX446, (Sl 270 0 1 1 3), (.cls 16 6)], odY116, [], Tt, []⟩,
 ⟨1000, [odX352, odS13, odX445, (Sl 270 0 1 1 3), (.cls 16 7)], odY116, [], Tt, []⟩,
 ⟨1000, [odX352, odS13, odX446, (Sl 270 0 1 1 3), (.cls 16 7)], odY116, [], Tt, []⟩,
 ⟨1000, [odX352, odS13, odX445, (Sl 270 0 1 1 3), (.cls 16 8)], odY116, [], Tt, []⟩,
 ⟨1000, [odX352, odS13, odX446, (Sl 270 0 1 1 3), (.cls 16 8)], odY116, [], Tt, []⟩,
 ⟨1000, [odX352, odS13, odX445, (Sl 270 0 1 1 3), (.cls 16 9)], odY116, [], Tt, []⟩,
 ⟨1000, [odX352, odS13, odX446, (Sl 270 0 1 1 3), (.cls 16 9)], odY116, [], Tt, []⟩,
 ⟨1000, [odX352, odS13, odX445, (Sl 270 0 1 1 3), (.cls 16 10)], odY116, [], Tt, []⟩,
 ⟨1000, [odX352, odS13, odX446, (Sl 270 0 1 1 3), (.cls 16 10)], odY116, [], Tt, []⟩,
 ⟨1000, [odX352, odS13, odX445, (Sl 270 0 1 1 3), (.cls 16 11)], odY116, [], Tt, []⟩,
 ⟨1000, [odX352, odS13, odX446, (Sl 270 0 1 1 3), (.cls 16 11)], odY116, [], Tt, []⟩,
 ⟨1000, [odX352, odS13, odX445, (Sl 270 0 1 1 3), (.cls 16 12)], odY116, [], Tt, []⟩,
 ⟨1000, [odX352, odS13, odX446, (Sl 270 0 1 1 3), (.cls 16 12)], odY116, [], Tt, []⟩,
 ⟨1000, [odX352, odS13, odX445, (Sl 270 0 1 1 3), (.cls 16 13)], odY116, [], Tt, []⟩,
 ⟨1000, [odX352, odS13, odX446, (Sl 270 0 1 1 3), (.cls 16 13)], odY116, [], Tt, []⟩,
 ⟨1000, [odX352, odS13, odX445, (Sl 270 0 1 1 3), (.cls 16 14)], odY116, [], Tt, []⟩,
 ⟨1000, [odX352, odS13, odX446, (Sl 270 0 1 1 3), (.cls 16 14)], odY116, [], Tt, []⟩,
 ⟨1000, [odX352, odS13, odX445, (Sl 270 0 1 1 3), (.cls 16 15)], odY116, [], Tt, []⟩,
 ⟨1000, [odX352, odS13, odX446, (Sl 270 0 1 1 3), (.cls 16 15)], odY116, [], Tt, []⟩]
def g12_8 : List CertN := [⟨1000, [odX352, odS9, odX446, (Sl 270 0 1 1 3), (.cls 16 0)], odY116, [], Tt, []⟩,
 ⟨1000, [odX352, odS9, odX445, (Sl 270 0 1 1 3), (.cls 16 0)], odY116, [], Tt, []⟩,
 ⟨1000, [odX352, odS9, odX446, (Sl 270 0 1 1 3), (.cls 16 1)], odY116, [], Tt, []⟩,
 ⟨1000, [odX352, odS9, odX445, (Sl 270 0 1 1 3), (.cls 16 1)], odY116, [], Tt, []⟩,
 ⟨1000, [odX352, odS9, odX446, (Sl 270 0 1 1 3), (.cls 16 2)], odY116, [], Tt, []⟩,
 ⟨1000, [odX352, odS9, odX445, (Sl 270 0 1 1 3), (.cls 16 2)], odY116, [], Tt, []⟩,
 ⟨1000, [odX352, odS9, odX446, (Sl 270 0 1 1 3), (.cls 16 3)], odY116, [], Tt, []⟩,
 ⟨1000, [odX352, odS9, odX445, (Sl 270 0 1 1 3), (.cls 16 3)], odY116, [], Tt, []⟩,
 ⟨1000, [odX352, odS9, odX446, (Sl 270 0 1 1 3), (.cls 16 4)], odY116, [], Tt, []⟩,
 ⟨1000, [odX352, odS9, odX445, (Sl 270 0 1 1 3), (.cls 16 4)], odY116, [], Tt, []⟩,
 ⟨1000, [odX352, odS9, odX446, (Sl 270 0 1 1 3), (.cls 16 5)], odY116, [], Tt, []⟩,
 ⟨1000, [odX352, odS9, odX445, (Sl 270 0 1 1 3), (.cls 16 5)], odY116, [], Tt, []⟩,
 ⟨1000, [odX352, odS9, odX446, (Sl 270 0 1 1 3), (.cls 16 6)], odY116, [], Tt, []⟩,
 ⟨1000, [odX352, odS9, odX445, (Sl 270 0 1 1 3), (.cls 16 6)], odY116, [], Tt, []⟩,
 ⟨1000, [odX352, odS9, odX446, (Sl 270 0 1 1 3), (.cls 16 7)], odY116, [], Tt, []⟩,
 ⟨1000, [odX352, odS9, odX445, (Sl 270 0 1 1 3), (.cls 16 7)], odY116, [], Tt, []⟩,
 ⟨1000, [odX352, odS9, odX446, (Sl 270 0 1 1 3), (.cls 16 8)], odY116, [], Tt, []⟩,
 ⟨1000, [odX352, odS9, odX445, (Sl 270 0 1 1 3), (.cls 16 8)], odY116, [], Tt, []⟩,
 ⟨1000, [odX352, odS9, odX446, (Sl 270 0 1 1 3), (.cls 16 9)], odY116, [], Tt, []⟩,
 ⟨1000, [odX352, odS9, odX445, (Sl 270 0 1 1 3), (.cls 16 9)], odY116, [], Tt, []⟩,
 ⟨1000, [odX352, odS9, odX446, (Sl 270 0 1 1 3), (.cls 16 10)], odY116, [], Tt, []⟩,
 ⟨1000, [odX352, odS9, odX445, (Sl 270 0 1 1 3), (.cls 16 10)], odY116, [], Tt, []⟩,
 ⟨1000, [odX352, odS9, odX446, (Sl 270 0 1 1 3), (.cls 16 11)], odY116, [], Tt, []⟩,
 ⟨1000, [odX352, odS9, odX445, (Sl 270 0 1 1 3), (.cls 16 11)], odY116, [], Tt, []⟩,
 ⟨1000, [odX352, odS9, odX446, (Sl 270 0 1 1 3), (.cls 16 12)], odY116, [], Tt, []⟩,
 ⟨1000, [odX352, odS9, odX445, (Sl 270 0 1 1 3), (.cls 16 12)], odY116, [], Tt, []⟩,
 ⟨1000, [odX352, odS9, odX446, (Sl 270 0 1 1 3), (.cls 16 13)], odY116, [], Tt, []⟩,
 ⟨1000, [odX352, odS9, odX445, (Sl 270 0 1 1 3), (.cls 16 13)], odY116, [], Tt, []⟩]
def g12_9 : List CertN := [⟨1000, [odX352, odS9, odX446, (Sl 270 0 1 1 3), (.cls 16 14)], odY116, [], Tt, []⟩,
 ⟨1000, [odX352, odS9, odX445, (Sl 270 0 1 1 3), (.cls 16 14)], odY116, [], Tt, []⟩,
 ⟨1000, [odX352, odS9, odX446, (Sl 270 0 1 1 3), (.cls 16 15)], odY116, [], Tt, []⟩,
 ⟨1000, [odX352, odS9, odX445, (Sl 270 0 1 1 3), (.cls 16 15)], odY116, [], Tt, []⟩,
 ⟨1000, [odX352, odS11, odX445, (Sl 270 0 1 1 3), (.cls 16 0)], odY116, [], Tt, []⟩,
 ⟨1000, [odX352, odS11, odX446, (Sl 270 0 1 1 3), (.cls 16 0)], odY116, [], Tt, []⟩,
 ⟨1000, [odX352, odS11, odX445, (Sl 270 0 1 1 3), (.cls 16 1)], odY116, [], Tt, []⟩,
 ⟨1000, [odX352, odS11, odX446, (Sl 270 0 1 1 3), (.cls 16 1)], odY116, [], Tt, []⟩,
 ⟨1000, [odX352, odS11, odX445, (Sl 270 0 1 1 3), (.cls 16 2)], odY116, [], Tt, []⟩,
 ⟨1000, [odX352, odS11, odX446, (Sl 270 0 1 1 3), (.cls 16 2)], odY116, [], Tt, []⟩,
 ⟨1000, [odX352, odS11, odX445, (Sl 270 0 1 1 3), (.cls 16 3)], odY116, [], Tt, []⟩,
 ⟨1000, [odX352, odS11, odX446, (Sl 270 0 1 1 3), (.cls 16 3)], odY116, [], Tt, []⟩,
 ⟨1000, [odX352, odS11, odX445, (Sl 270 0 1 1 3), (.cls 16 4)], odY116, [], Tt, []⟩,
 ⟨1000, [odX352, odS11, odX446, (Sl 270 0 1 1 3), (.cls 16 4)], odY116, [], Tt, []⟩,
 ⟨1000, [odX352, odS11, odX445, (Sl 270 0 1 1 3), (.cls 16 5)], odY116, [], Tt, []⟩,
 ⟨1000, [odX352, odS11, odX446, (Sl 270 0 1 1 3), (.cls 16 5)], odY116, [], Tt, []⟩,
 ⟨1000, [odX352, odS11, odX445, (Sl 270 0 1 1 3), (.cls 16 6)], odY116, [], Tt, []⟩,
 ⟨1000, [odX352, odS11, odX446, (Sl 270 0 1 1 3), (.cls 16 6)], odY116, [], Tt, []⟩,
 ⟨1000, [odX352, odS11, odX445, (Sl 270 0 1 1 3), (.cls 16 7)], odY116, [], Tt, []⟩,
 ⟨1000, [odX352, odS11, odX446, (Sl 270 0 1 1 3), (.cls 16 7)], odY116, [], Tt, []⟩,
 ⟨1000, [odX352, odS11, odX445, (Sl 270 0 1 1 3), (.cls 16 8)], odY116, [], Tt, []⟩,
 ⟨1000, [odX352, odS11, odX446, (Sl 270 0 1 1 3), (.cls 16 8)], odY116, [], Tt, []⟩,
 ⟨1000, [odX352, odS11, odX445, (Sl 270 0 1 1 3), (.cls 16 9)], odY116, [], Tt, []⟩,
 ⟨1000, [odX352, odS11, odX446, (Sl 270 0 1 1 3), (.cls 16 9)], odY116, [], Tt, []⟩,
 ⟨1000, [odX352, odS11, odX445, (Sl 270 0 1 1 3), (.cls 16 10)], odY116, [], Tt, []⟩,
 ⟨1000, [odX352, odS11, odX446, (Sl 270 0 1 1 3), (.cls 16 10)], odY116, [], Tt, []⟩,
 ⟨1000, [odX352, odS11, odX445, (Sl 270 0 1 1 3), (.cls 16 11)], odY116, [], Tt, []⟩,
 ⟨1000, [odX352, odS11, odX446, (Sl 270 0 1 1 3), (.cls 16 11)], odY116, [], Tt, []⟩]
def g12_10 : List CertN := [⟨1000, [odX352, odS11, odX445, (Sl 270 0 1 1 3), (.cls 16 12)], odY116, [], Tt, []⟩,
 ⟨1000, [odX352, odS11, odX446, (Sl 270 0 1 1 3), (.cls 16 12)], odY116, [], Tt, []⟩,
 ⟨1000, [odX352, odS11, odX445, (Sl 270 0 1 1 3), (.cls 16 13)], odY116, [], Tt, []⟩,
 ⟨1000, [odX352, odS11, odX446, (Sl 270 0 1 1 3), (.cls 16 13)], odY116, [], Tt, []⟩,
 ⟨1000, [odX352, odS11, odX445, (Sl 270 0 1 1 3), (.cls 16 14)], odY116, [], Tt, []⟩,
 ⟨1000, [odX352, odS11, odX446, (Sl 270 0 1 1 3), (.cls 16 14)], odY116, [], Tt, []⟩,
 ⟨1000, [odX352, odS11, odX445, (Sl 270 0 1 1 3), (.cls 16 15)], odY116, [], Tt, []⟩,
 ⟨1000, [odX352, odS11, odX446, (Sl 270 0 1 1 3), (.cls 16 15)], odY116, [], Tt, []⟩,
 ⟨1000, [odX352, odS2, odX445, (Sl 271 0 1 1 3), (.cls 16 0)], odY117, [], Tt, []⟩,
 ⟨1000, [odX352, odS2, odX446, (Sl 271 0 1 1 3), (.cls 16 0)], odY117, [], Tt, []⟩,
 ⟨1000, [odX352, odS2, odX445, (Sl 271 0 1 1 3), (.cls 16 1)], odY117, [], Tt, []⟩,
 ⟨1000, [odX352, odS2, odX446, (Sl 271 0 1 1 3), (.cls 16 1)], odY117, [], Tt, []⟩,
 ⟨1000, [odX352, odS2, odX445, (Sl 271 0 1 1 3), (.cls 16 2)], odY117, [], Tt, []⟩,
 ⟨1000, [odX352, odS2, odX446, (Sl 271 0 1 1 3), (.cls 16 2)], odY117, [], Tt, []⟩,
 ⟨1000, [odX352, odS2, odX445, (Sl 271 0 1 1 3), (.cls 16 3)], odY117, [], Tt, []⟩,
 ⟨1000, [odX352, odS2, odX446, (Sl 271 0 1 1 3), (.cls 16 3)], odY117, [], Tt, []⟩,
 ⟨1000, [odX352, odS2, odX445, (Sl 271 0 1 1 3), (.cls 16 4)], odY117, [], Tt, []⟩,
 ⟨1000, [odX352, odS2, odX446, (Sl 271 0 1 1 3), (.cls 16 4)], odY117, [], Tt, []⟩,
 ⟨1000, [odX352, odS2, odX445, (Sl 271 0 1 1 3), (.cls 16 5)], odY117, [], Tt, []⟩,
 ⟨1000, [odX352, odS2, odX446, (Sl 271 0 1 1 3), (.cls 16 5)], odY117, [], Tt, []⟩,
 ⟨1000, [odX352, odS2, odX445, (Sl 271 0 1 1 3), (.cls 16 6)], odY117, [], Tt, []⟩,
 ⟨1000, [odX352, odS2, odX446, (Sl 271 0 1 1 3), (.cls 16 6)], odY117, [], Tt, []⟩,
 ⟨1000, [odX352, odS2, odX445, (Sl 271 0 1 1 3), (.cls 16 7)], odY117, [], Tt, []⟩,
 ⟨1000, [odX352, odS2, odX446, (Sl 271 0 1 1 3), (.cls 16 7)], odY117, [], Tt, []⟩,
 ⟨1000, [odX352, odS2, odX445, (Sl 271 0 1 1 3), (.cls 16 8)], odY117, [], Tt, []⟩,
 ⟨1000, [odX352, odS2, odX446, (Sl 271 0 1 1 3), (.cls 16 8)], odY117, [], Tt, []⟩,
 ⟨1000, [odX352, odS2, odX445, (Sl 271 0 1 1 3), (.cls 16 9)], odY117, [], Tt, []⟩,
 ⟨1000, [odX352, odS2, odX446, (Sl 271 0 1 1 3), (.cls 16 9)], odY117, [], Tt, []⟩]
def g12_11 : List CertN := [⟨1000, [odX352, odS2, odX445, (Sl 271 0 1 1 3), (.cls 16 10)], odY117, [], Tt, []⟩,
 ⟨1000, [odX352, odS2, odX446, (Sl 271 0 1 1 3), (.cls 16 10)], odY117, [], Tt, []⟩,
 ⟨1000, [odX352, odS2, odX445, (Sl 271 0 1 1 3), (.cls 16 11)], odY117, [], Tt, []⟩,
 ⟨1000, [odX352, odS2, odX446, (Sl 271 0 1 1 3), (.cls 16 11)], odY117, [], Tt, []⟩,
 ⟨1000, [odX352, odS2, odX445, (Sl 271 0 1 1 3), (.cls 16 12)], odY117, [], Tt, []⟩,
 ⟨1000, [odX352, odS2, odX446, (Sl 271 0 1 1 3), (.cls 16 12)], odY117, [], Tt, []⟩,
 ⟨1000, [odX352, odS2, odX445, (Sl 271 0 1 1 3), (.cls 16 13)], odY117, [], Tt, []⟩,
 ⟨1000, [odX352, odS2, odX446, (Sl 271 0 1 1 3), (.cls 16 13)], odY117, [], Tt, []⟩,
 ⟨1000, [odX352, odS2, odX445, (Sl 271 0 1 1 3), (.cls 16 14)], odY117, [], Tt, []⟩,
 ⟨1000, [odX352, odS2, odX446, (Sl 271 0 1 1 3), (.cls 16 14)], odY117, [], Tt, []⟩,
 ⟨1000, [odX352, odS2, odX445, (Sl 271 0 1 1 3), (.cls 16 15)], odY117, [], Tt, []⟩,
 ⟨1000, [odX352, odS2, odX446, (Sl 271 0 1 1 3), (.cls 16 15)], odY117, [], Tt, []⟩,
 ⟨1000, [odX352, odS4, odX446, (Sl 271 0 1 1 3), (.cls 16 0)], odY117, [], Tt, []⟩,
 ⟨1000, [odX352, odS4, odX445, (Sl 271 0 1 1 3), (.cls 16 0)], odY117, [], Tt, []⟩,
 ⟨1000, [odX352, odS4, odX446, (Sl 271 0 1 1 3), (.cls 16 1)], odY117, [], Tt, []⟩,
 ⟨1000, [odX352, odS4, odX445, (Sl 271 0 1 1 3), (.cls 16 1)], odY117, [], Tt, []⟩,
 ⟨1000, [odX352, odS4, odX446, (Sl 271 0 1 1 3), (.cls 16 2)], odY117, [], Tt, []⟩,
 ⟨1000, [odX352, odS4, odX445, (Sl 271 0 1 1 3), (.cls 16 2)], odY117, [], Tt, []⟩,
 ⟨1000, [odX352, odS4, odX446, (Sl 271 0 1 1 3), (.cls 16 3)], odY117, [], Tt, []⟩,
 ⟨1000, [odX352, odS4, odX445, (Sl 271 0 1 1 3), (.cls 16 3)], odY117, [], Tt, []⟩,
 ⟨1000, [odX352, odS4, odX446, (Sl 271 0 1 1 3), (.cls 16 4)], odY117, [], Tt, []⟩,
 ⟨1000, [odX352, odS4, odX445, (Sl 271 0 1 1 3), (.cls 16 4)], odY117, [], Tt, []⟩,
 ⟨1000, [odX352, odS4, odX446, (Sl 271 0 1 1 3), (.cls 16 5)], odY117, [], Tt, []⟩,
 ⟨1000, [odX352, odS4, odX445, (Sl 271 0 1 1 3), (.cls 16 5)], odY117, [], Tt, []⟩,
 ⟨1000, [odX352, odS4, odX446, (Sl 271 0 1 1 3), (.cls 16 6)], odY117, [], Tt, []⟩,
 ⟨1000, [odX352, odS4, odX445, (Sl 271 0 1 1 3), (.cls 16 6)], odY117, [], Tt, []⟩,
 ⟨1000, [odX352, odS4, odX446, (Sl 271 0 1 1 3), (.cls 16 7)], odY117, [], Tt, []⟩,
 ⟨1000, [odX352, odS4, odX445, (Sl 271 0 1 1 3), (.cls 16 7)], odY117, [], Tt, []⟩]
def g12_12 : List CertN := [⟨1000, [odX352, odS4, odX446, (Sl 271 0 1 1 3), (.cls 16 8)], odY117, [], Tt, []⟩,
 ⟨1000, [odX352, odS4, odX445, (Sl 271 0 1 1 3), (.cls 16 8)], odY117, [], Tt, []⟩,
 ⟨1000, [odX352, odS4, odX446, (Sl 271 0 1 1 3), (.cls 16 9)], odY117, [], Tt, []⟩,
 ⟨1000, [odX352, odS4, odX445, (Sl 271 0 1 1 3), (.cls 16 9)], odY117, [], Tt, []⟩,
 ⟨1000, [odX352, odS4, odX446, (Sl 271 0 1 1 3), (.cls 16 10)], odY117, [], Tt, []⟩,
 ⟨1000, [odX352, odS4, odX445, (Sl 271 0 1 1 3), (.cls 16 10)], odY117, [], Tt, []⟩,
 ⟨1000, [odX352, odS4, odX446, (Sl 271 0 1 1 3), (.cls 16 11)], odY117, [], Tt, []⟩,
 ⟨1000, [odX352, odS4, odX445, (Sl 271 0 1 1 3), (.cls 16 11)], odY117, [], Tt, []⟩,
 ⟨1000, [odX352, odS4, odX446, (Sl 271 0 1 1 3), (.cls 16 12)], odY117, [], Tt, []⟩,
 ⟨1000, [odX352, odS4, odX445, (Sl 271 0 1 1 3), (.cls 16 12)], odY117, [], Tt, []⟩,
 ⟨1000, [odX352, odS4, odX446, (Sl 271 0 1 1 3), (.cls 16 13)], odY117, [], Tt, []⟩,
 ⟨1000, [odX352, odS4, odX445, (Sl 271 0 1 1 3), (.cls 16 13)], odY117, [], Tt, []⟩,
 ⟨1000, [odX352, odS4, odX446, (Sl 271 0 1 1 3), (.cls 16 14)], odY117, [], Tt, []⟩,
 ⟨1000, [odX352, odS4, odX445, (Sl 271 0 1 1 3), (.cls 16 14)], odY117, [], Tt, []⟩,
 ⟨1000, [odX352, odS4, odX446, (Sl 271 0 1 1 3), (.cls 16 15)], odY117, [], Tt, []⟩,
 ⟨1000, [odX352, odS4, odX445, (Sl 271 0 1 1 3), (.cls 16 15)], odY117, [], Tt, []⟩,
 ⟨1000, [odX352, odS3, odX445, (Sl 271 0 1 1 3), (.cls 16 0)], odY117, [], Tt, []⟩,
 ⟨1000, [odX352, odS3, odX446, (Sl 271 0 1 1 3), (.cls 16 0)], odY117, [], Tt, []⟩,
 ⟨1000, [odX352, odS3, odX445, (Sl 271 0 1 1 3), (.cls 16 1)], odY117, [], Tt, []⟩,
 ⟨1000, [odX352, odS3, odX446, (Sl 271 0 1 1 3), (.cls 16 1)], odY117, [], Tt, []⟩,
 ⟨1000, [odX352, odS3, odX445, (Sl 271 0 1 1 3), (.cls 16 2)], odY117, [], Tt, []⟩,
 ⟨1000, [odX352, odS3, odX446, (Sl 271 0 1 1 3), (.cls 16 2)], odY117, [], Tt, []⟩,
 ⟨1000, [odX352, odS3, odX445, (Sl 271 0 1 1 3), (.cls 16 3)], odY117, [], Tt, []⟩,
 ⟨1000, [odX352, odS3, odX446, (Sl 271 0 1 1 3), (.cls 16 3)], odY117, [], Tt, []⟩,
 ⟨1000, [odX352, odS3, odX445, (Sl 271 0 1 1 3), (.cls 16 4)], odY117, [], Tt, []⟩,
 ⟨1000, [odX352, odS3, odX446, (Sl 271 0 1 1 3), (.cls 16 4)], odY117, [], Tt, []⟩,
 ⟨1000, [odX352, odS3, odX445, (Sl 271 0 1 1 3), (.cls 16 5)], odY117, [], Tt, []⟩,
 ⟨1000, [odX352, odS3, odX446, (Sl 271 0 1 1 3), (.cls 16 5)], odY117, [], Tt, []⟩]
def g12_13 : List CertN := [⟨1000, [odX352, odS3, odX445, (Sl 271 0 1 1 3), (.cls 16 6)], odY117, [], Tt, []⟩,
 ⟨1000, [odX352, odS3, odX446, (Sl 271 0 1 1 3), (.cls 16 6)], odY117, [], Tt, []⟩,
 ⟨1000, [odX352, odS3, odX445, (Sl 271 0 1 1 3), (.cls 16 7)], odY117, [], Tt, []⟩,
 ⟨1000, [odX352, odS3, odX446, (Sl 271 0 1 1 3), (.cls 16 7)], odY117, [], Tt, []⟩,
 ⟨1000, [odX352, odS3, odX445, (Sl 271 0 1 1 3), (.cls 16 8)], odY117, [], Tt, []⟩,
 ⟨1000, [odX352, odS3, odX446, (Sl 271 0 1 1 3), (.cls 16 8)], odY117, [], Tt, []⟩,
 ⟨1000, [odX352, odS3, odX445, (Sl 271 0 1 1 3), (.cls 16 9)], odY117, [], Tt, []⟩,
 ⟨1000, [odX352, odS3, odX446, (Sl 271 0 1 1 3), (.cls 16 9)], odY117, [], Tt, []⟩,
 ⟨1000, [odX352, odS3, odX445, (Sl 271 0 1 1 3), (.cls 16 10)], odY117, [], Tt, []⟩,
 ⟨1000, [odX352, odS3, odX446, (Sl 271 0 1 1 3), (.cls 16 10)], odY117, [], Tt, []⟩,
 ⟨1000, [odX352, odS3, odX445, (Sl 271 0 1 1 3), (.cls 16 11)], odY117, [], Tt, []⟩,
 ⟨1000, [odX352, odS3, odX446, (Sl 271 0 1 1 3), (.cls 16 11)], odY117, [], Tt, []⟩,
 ⟨1000, [odX352, odS3, odX445, (Sl 271 0 1 1 3), (.cls 16 12)], odY117, [], Tt, []⟩,
 ⟨1000, [odX352, odS3, odX446, (Sl 271 0 1 1 3), (.cls 16 12)], odY117, [], Tt, []⟩,
 ⟨1000, [odX352, odS3, odX445, (Sl 271 0 1 1 3), (.cls 16 13)], odY117, [], Tt, []⟩,
 ⟨1000, [odX352, odS3, odX446, (Sl 271 0 1 1 3), (.cls 16 13)], odY117, [], Tt, []⟩,
 ⟨1000, [odX352, odS3, odX445, (Sl 271 0 1 1 3), (.cls 16 14)], odY117, [], Tt, []⟩,
 ⟨1000, [odX352, odS3, odX446, (Sl 271 0 1 1 3), (.cls 16 14)], odY117, [], Tt, []⟩,
 ⟨1000, [odX352, odS3, odX445, (Sl 271 0 1 1 3), (.cls 16 15)], odY117, [], Tt, []⟩,
 ⟨1000, [odX352, odS3, odX446, (Sl 271 0 1 1 3), (.cls 16 15)], odY117, [], Tt, []⟩,
 ⟨1000, [odX352, odS5, odX446, (Sl 271 0 1 1 3), (.cls 16 0)], odY117, [], Tt, []⟩,
 ⟨1000, [odX352, odS5, odX445, (Sl 271 0 1 1 3), (.cls 16 0)], odY117, [], Tt, []⟩,
 ⟨1000, [odX352, odS5, odX446, (Sl 271 0 1 1 3), (.cls 16 1)], odY117, [], Tt, []⟩,
 ⟨1000, [odX352, odS5, odX445, (Sl 271 0 1 1 3), (.cls 16 1)], odY117, [], Tt, []⟩,
 ⟨1000, [odX352, odS5, odX446, (Sl 271 0 1 1 3), (.cls 16 2)], odY117, [], Tt, []⟩,
 ⟨1000, [odX352, odS5, odX445, (Sl 271 0 1 1 3), (.cls 16 2)], odY117, [], Tt, []⟩,
 ⟨1000, [odX352, odS5, odX446, (Sl 271 0 1 1 3), (.cls 16 3)], odY117, [], Tt, []⟩,
 ⟨1000, [odX352, odS5, odX445, (Sl 271 0 1 1 3), (.cls 16 3)], odY117, [], Tt, []⟩]
def g12_14 : List CertN := [⟨1000, [odX352, odS5, odX446, (Sl 271 0 1 1 3), (.cls 16 4)], odY117, [], Tt, []⟩,
 ⟨1000, [odX352, odS5, odX445, (Sl 271 0 1 1 3), (.cls 16 4)], odY117, [], Tt, []⟩,
 ⟨1000, [odX352, odS5, odX446, (Sl 271 0 1 1 3), (.cls 16 5)], odY117, [], Tt, []⟩,
 ⟨1000, [odX352, odS5, odX445, (Sl 271 0 1 1 3), (.cls 16 5)], odY117, [], Tt, []⟩,
 ⟨1000, [odX352, odS5, odX446, (Sl 271 0 1 1 3), (.cls 16 6)], odY117, [], Tt, []⟩,
 ⟨1000, [odX352, odS5, odX445, (Sl 271 0 1 1 3), (.cls 16 6)], odY117, [], Tt, []⟩,
 ⟨1000, [odX352, odS5, odX446, (Sl 271 0 1 1 3), (.cls 16 7)], odY117, [], Tt, []⟩,
 ⟨1000, [odX352, odS5, odX445, (Sl 271 0 1 1 3), (.cls 16 7)], odY117, [], Tt, []⟩,
 ⟨1000, [odX352, odS5, odX446, (Sl 271 0 1 1 3), (.cls 16 8)], odY117, [], Tt, []⟩,
 ⟨1000, [odX352, odS5, odX445, (Sl 271 0 1 1 3), (.cls 16 8)], odY117, [], Tt, []⟩,
 ⟨1000, [odX352, odS5, odX446, (Sl 271 0 1 1 3), (.cls 16 9)], odY117, [], Tt, []⟩,
 ⟨1000, [odX352, odS5, odX445, (Sl 271 0 1 1 3), (.cls 16 9)], odY117, [], Tt, []⟩,
 ⟨1000, [odX352, odS5, odX446, (Sl 271 0 1 1 3), (.cls 16 10)], odY117, [], Tt, []⟩,
 ⟨1000, [odX352, odS5, odX445, (Sl 271 0 1 1 3), (.cls 16 10)], odY117, [], Tt, []⟩,
 ⟨1000, [odX352, odS5, odX446, (Sl 271 0 1 1 3), (.cls 16 11)], odY117, [], Tt, []⟩,
 ⟨1000, [odX352, odS5, odX445, (Sl 271 0 1 1 3), (.cls 16 11)], odY117, [], Tt, []⟩,
 ⟨1000, [odX352, odS5, odX446, (Sl 271 0 1 1 3), (.cls 16 12)], odY117, [], Tt, []⟩,
 ⟨1000, [odX352, odS5, odX445, (Sl 271 0 1 1 3), (.cls 16 12)], odY117, [], Tt, []⟩,
 ⟨1000, [odX352, odS5, odX446, (Sl 271 0 1 1 3), (.cls 16 13)], odY117, [], Tt, []⟩,
 ⟨1000, [odX352, odS5, odX445, (Sl 271 0 1 1 3), (.cls 16 13)], odY117, [], Tt, []⟩,
 ⟨1000, [odX352, odS5, odX446, (Sl 271 0 1 1 3), (.cls 16 14)], odY117, [], Tt, []⟩,
 ⟨1000, [odX352, odS5, odX445, (Sl 271 0 1 1 3), (.cls 16 14)], odY117, [], Tt, []⟩,
 ⟨1000, [odX352, odS5, odX446, (Sl 271 0 1 1 3), (.cls 16 15)], odY117, [], Tt, []⟩,
 ⟨1000, [odX352, odS5, odX445, (Sl 271 0 1 1 3), (.cls 16 15)], odY117, [], Tt, []⟩,
 ⟨1000, [odX352, odS7, odX445, (Sl 271 0 1 1 3), (.cls 16 0)], odY117, [], Tt, []⟩,
 ⟨1000, [odX352, odS7, odX446, (Sl 271 0 1 1 3), (.cls 16 0)], odY117, [], Tt, []⟩,
 ⟨1000, [odX352, odS7, odX445, (Sl 271 0 1 1 3), (.cls 16 1)], odY117, [], Tt, []⟩,
 ⟨1000, [odX352, odS7, odX446, (Sl 271 0 1 1 3), (.cls 16 1)], odY117, [], Tt, []⟩]
def g12_15 : List CertN := [⟨1000, [odX352, odS7, odX445, (Sl 271 0 1 1 3), (.cls 16 2)], odY117, [], Tt, []⟩,
 ⟨1000, [odX352, odS7, odX446, (Sl 271 0 1 1 3), (.cls 16 2)], odY117, [], Tt, []⟩,
 ⟨1000, [odX352, odS7, odX445, (Sl 271 0 1 1 3), (.cls 16 3)], odY117, [], Tt, []⟩,
 ⟨1000, [odX352, odS7, odX446, (Sl 271 0 1 1 3), (.cls 16 3)], odY117, [], Tt, []⟩,
 ⟨1000, [odX352, odS7, odX445, (Sl 271 0 1 1 3), (.cls 16 4)], odY117, [], Tt, []⟩,
 ⟨1000, [odX352, odS7, odX446, (Sl 271 0 1 1 3), (.cls 16 4)], odY117, [], Tt, []⟩,
 ⟨1000, [odX352, odS7, odX445, (Sl 271 0 1 1 3), (.cls 16 5)], odY117, [], Tt, []⟩,
 ⟨1000, [odX352, odS7, odX446, (Sl 271 0 1 1 3), (.cls 16 5)], odY117, [], Tt, []⟩,
 ⟨1000, [odX352, odS7, odX445, (Sl 271 0 1 1 3), (.cls 16 6)], odY117, [], Tt, []⟩,
 ⟨1000, [odX352, odS7, odX446, (Sl 271 0 1 1 3), (.cls 16 6)], odY117, [], Tt, []⟩,
 ⟨1000, [odX352, odS7, odX445, (Sl 271 0 1 1 3), (.cls 16 7)], odY117, [], Tt, []⟩,
 ⟨1000, [odX352, odS7, odX446, (Sl 271 0 1 1 3), (.cls 16 7)], odY117, [], Tt, []⟩,
 ⟨1000, [odX352, odS7, odX445, (Sl 271 0 1 1 3), (.cls 16 8)], odY117, [], Tt, []⟩,
 ⟨1000, [odX352, odS7, odX446, (Sl 271 0 1 1 3), (.cls 16 8)], odY117, [], Tt, []⟩,
 ⟨1000, [odX352, odS7, odX445, (Sl 271 0 1 1 3), (.cls 16 9)], odY117, [], Tt, []⟩,
 ⟨1000, [odX352, odS7, odX446, (Sl 271 0 1 1 3), (.cls 16 9)], odY117, [], Tt, []⟩,
 ⟨1000, [odX352, odS7, odX445, (Sl 271 0 1 1 3), (.cls 16 10)], odY117, [], Tt, []⟩,
 ⟨1000, [odX352, odS7, odX446, (Sl 271 0 1 1 3), (.cls 16 10)], odY117, [], Tt, []⟩,
 ⟨1000, [odX352, odS7, odX445, (Sl 271 0 1 1 3), (.cls 16 11)], odY117, [], Tt, []⟩,
 ⟨1000, [odX352, odS7, odX446, (Sl 271 0 1 1 3), (.cls 16 11)], odY117, [], Tt, []⟩,
 ⟨1000, [odX352, odS7, odX445, (Sl 271 0 1 1 3), (.cls 16 12)], odY117, [], Tt, []⟩,
 ⟨1000, [odX352, odS7, odX446, (Sl 271 0 1 1 3), (.cls 16 12)], odY117, [], Tt, []⟩,
 ⟨1000, [odX352, odS7, odX445, (Sl 271 0 1 1 3), (.cls 16 13)], odY117, [], Tt, []⟩,
 ⟨1000, [odX352, odS7, odX446, (Sl 271 0 1 1 3), (.cls 16 13)], odY117, [], Tt, []⟩,
 ⟨1000, [odX352, odS7, odX445, (Sl 271 0 1 1 3), (.cls 16 14)], odY117, [], Tt, []⟩,
 ⟨1000, [odX352, odS7, odX446, (Sl 271 0 1 1 3), (.cls 16 14)], odY117, [], Tt, []⟩,
 ⟨1000, [odX352, odS7, odX445, (Sl 271 0 1 1 3), (.cls 16 15)], odY117, [], Tt, []⟩,
 ⟨1000, [odX352, odS7, odX446, (Sl 271 0 1 1 3), (.cls 16 15)], odY117, [], Tt, []⟩]
def l12 : List CertN := g12_0 ++ (g12_1 ++ (g12_2 ++ (g12_3 ++ (g12_4 ++ (g12_5 ++ (g12_6 ++ (g12_7 ++ (g12_8 ++ (g12_9 ++ (g12_10 ++ (g12_11 ++ (g12_12 ++ (g12_13 ++ (g12_14 ++ (g12_15)))))))))))))))
def g16_0 : List Cert := [⟨2000, [odS12], [], [], 2283, (.tuple [(Sl 2282 0 1 1 2), (Ii 0), (Ii 0)]), (odL6 ++ (odL2 ++ (odL5 ++ (odL4 ++ (odL7 ++ odL3)))))⟩]
def g16_1 : List Cert := [⟨2000, [odS10], [], [], 2283, (.tuple [(Sl 2282 0 1 1 2), (Ii 0), (Ii 0)]), (odL9 ++ (odL8 ++ (odL5 ++ (odL4 ++ (odL7 ++ odL3)))))⟩]
def g16_2 : List Cert := [⟨2000, [odS8], [], [], 2315, (.tuple [(Sl 2314 0 1 1 2), (Ii 0), (Ii 0)]), (odL10 ++ (odL14 ++ (odL13 ++ (odL15 ++ (odL16 ++ (odL12 ++ odL11))))))⟩]
def g16_3 : List Cert := [⟨2000, [odS6], [], [], 2299, (.tuple [(Sl 2298 0 1 1 2), (Ii 0), (Ii 0)]), (odL21 ++ (odL17 ++ (odL20 ++ (odL19 ++ (odL22 ++ odL18)))))⟩]
def g16_4 : List Cert := [⟨2000, [odS1], [], [], 2315, (.tuple [(Sl 2314 0 1 1 2), (Ii 0), (Ii 0)]), (odL24 ++ (odL23 ++ (odL13 ++ (odL16 ++ (odL12 ++ odL11)))))⟩]
def g16_5 : List Cert := [⟨2000, [odS0], [], [], 2373, (.tuple [(Sl 2372 0 1 1 2), (Ii 0), (Ii 0)]), ([(2103, (Ce (Lf (Sn 2102 0 3 7)) 1))] ++ (odL26 ++ odL25))⟩]
def g16_6 : List Cert := [⟨2000, [odS13], [], [], 2283, (.tuple [(Sl 2282 0 1 1 2), (Ii 0), (Ii 0)]), (odL28 ++ (odL29 ++ (odL30 ++ (odL27 ++ (odL5 ++ (odL4 ++ (odL7 ++ odL3)))))))⟩]
def g16_7 : List Cert := [⟨2000, [odS9], [], [], 2315, (.tuple [(Sl 2314 0 1 1 2), (Ii 0), (Ii 0)]), (odL31 ++ (odL14 ++ (odL13 ++ (odL15 ++ (odL16 ++ (odL12 ++ odL11))))))⟩]
def g16_8 : List Cert := [⟨2000, [odS11], [], [], 2299, (.tuple [(Sl 2298 0 1 1 2), (Ii 0), (Ii 0)]), (odL33 ++ (odL34 ++ (odL35 ++ (odL32 ++ (odL20 ++ (odL19 ++ (odL22 ++ odL18)))))))⟩]
def g16_9 : List Cert := [⟨2000, [odS2], [], [], 2341, (.tuple [(Sl 2340 0 1 1 2), (Ii 0), (Ii 0)]), (odL37 ++ (odL41 ++ (odL40 ++ (odL36 ++ (odL39 ++ (odL43 ++ (odL42 ++ odL38)))))))⟩]
def g16_10 : List Cert := [⟨2000, [odS4], [], [], 2341, (.tuple [(Sl 2340 0 1 1 2), (Ii 0), (Ii 0)]), (odL45 ++ (odL44 ++ (odL40 ++ (odL36 ++ (odL39 ++ (odL42 ++ odL38))))))⟩]
def g16_11 : List Cert := [⟨2000, [odS3], [], [], 2341, (.tuple [(Sl 2340 0 1 1 2), (Ii 0), (Ii 0)]), (odL46 ++ (odL41 ++ (odL40 ++ (odL39 ++ (odL43 ++ (odL42 ++ odL38))))))⟩]
def g16_12 : List Cert := [⟨2000, [odS5], [], [], 2367, (.tuple [(Sl 2366 0 1 1 2), (Ii 0), (Ii 0)]), ([(2103, (Ce (Lf (Sn 2102 0 3 7)) 1))] ++ (odL48 ++ odL47))⟩]
def g16_13 : List Cert := [⟨2000, [odS7], [], [], 2325, (.tuple [(Sl 2324 0 1 1 2), (Ii 0), (Ii 0)]), (odL50 ++ odL49)⟩]
def l16 : List Cert := g16_0 ++ (g16_1 ++ (g16_2 ++ (g16_3 ++ (g16_4 ++ (g16_5 ++ (g16_6 ++ (g16_7 ++ (g16_8 ++ (g16_9 ++ (g16_10 ++ (g16_11 ++ (g16_12 ++ (g16_13)))))))))))))
def g17_0 : List Cert := [⟨3000, [odX352, (Sl 2282 0 1 1 2)], (odL6 ++ (odL2 ++ (odL5 ++ (odL4 ++ (odL7 ++ (odL3 ++ odL51)))))), [], 3401, (.tuple [(Pp 3154 0), (.agg [(Ii 0), Se, (Ii 0)])]), odY0⟩]
def g17_1 : List Cert := [⟨3000, [odX352, (Sl 2282 0 1 1 2)], (odL9 ++ (odL8 ++ (odL5 ++ (odL4 ++ (odL7 ++ (odL3 ++ odL51)))))), [], 3401, (.tuple [(Pp 3154 0), (.agg [(Ii 0), Se, (Ii 0)])]), odY1⟩]
def g17_2 : List Cert := [⟨3000, [odX352, (Sl 2314 0 1 1 2)], (odL10 ++ (odL14 ++ (odL13 ++ (odL15 ++ (odL16 ++ (odL12 ++ (odL11 ++ odL51))))))), [], 3486, (.tuple [(Pp 3158 0), (.agg [(Ii 0), Se, (Ii 0)])]), odY2⟩]
def g17_3 : List Cert := [⟨3000, [odX352, (Sl 2298 0 1 1 2)], (odL21 ++ (odL17 ++ (odL20 ++ (odL19 ++ (odL22 ++ (odL18 ++ odL51)))))), [], 3453, (.tuple [(Pp 3156 0), (.agg [(Ii 0), Se, (Ii 0)])]), odY3⟩]
def g17_4 : List Cert := [⟨3000, [odX352, (Sl 2314 0 1 1 2)], (odL24 ++ (odL23 ++ (odL13 ++ (odL16 ++ (odL12 ++ (odL11 ++ odL51)))))), [], 3487, (.tuple [(Pp 3158 0), (.agg [(Ii 0), Se, (Ii 0)])]), odY4⟩]
def g17_5 : List Cert := [⟨3000, [odX352, (Sl 2372 0 1 1 2)], ([(2103, (Ce (Lf (Sn 2102 0 3 7)) 1))] ++ (odL26 ++ (odL25 ++ odL51))), [], 3594, (.tuple [(Pp 3174 0), (.agg [(Ii 0), Se, (Ii 0)])]), odY5⟩]
def g17_6 : List Cert := [⟨3000, [odX352, (Sl 2282 0 1 1 2)], (odL28 ++ (odL29 ++ (odL30 ++ (odL27 ++ (odL5 ++ (odL4 ++ (odL7 ++ (odL3 ++ odL51)))))))), [], 3399, (.tuple [(Pp 3154 0), (.agg [(Ii 0), Se, (Ii 0)])]), odY6⟩]
def g17_7 : List Cert := [⟨3000, [odX352, (Sl 2314 0 1 1 2)], (odL31 ++ (odL14 ++ (odL13 ++ (odL15 ++ (odL16 ++ (odL12 ++ (odL11 ++ odL51))))))), [], 3483, (.tuple [(Pp 3158 0), (.agg [(Ii 0), Se, (Ii 0)])]), odY7⟩]
def g17_8 : List Cert := [⟨3000, [odX352, (Sl 2298 0 1 1 2)], (odL33 ++ (odL34 ++ (odL35 ++ (odL32 ++ (odL20 ++ (odL19 ++ (odL22 ++ (odL18 ++ odL51)))))))), [], 3451, (.tuple [(Pp 3156 0), (.agg [(Ii 0), Se, (Ii 0)])]), odY8⟩]
def g17_9 : List Cert := [⟨3000, [odX352, (Sl 2340 0 1 1 2)], (odL37 ++ (odL41 ++ (odL40 ++ (odL36 ++ (odL39 ++ (odL43 ++ (odL42 ++ (odL38 ++ odL51)))))))), [], 3503, (.tuple [(Pp 3170 0), (.agg [(Ii 0), Se, (Ii 0)])]), odY9⟩]
def g17_10 : List Cert := [⟨3000, [odX352, (Sl 2340 0 1 1 2)], (odL45 ++ (odL44 ++ (odL40 ++ (odL36 ++ (odL39 ++ (odL42 ++ (odL38 ++ odL51))))))), [], 3503, (.tuple [(Pp 3170 0), (.agg [(Ii 0), Se, (Ii 0)])]), odY10⟩]
def g17_11 : List Cert := [⟨3000, [odX352, (Sl 2340 0 1 1 2)], (odL46 ++ (odL41 ++ (odL40 ++ (odL39 ++ (odL43 ++ (odL42 ++ (odL38 ++ odL51))))))), [], 3503, (.tuple [(Pp 3170 0), (.agg [(Ii 0), Se, (Ii 0)])]), odY11⟩]
def g17_12 : List Cert := [⟨3000, [odX352, (Sl 2366 0 1 1 2)], ([(2103, (Ce (Lf (Sn 2102 0 3 7)) 1))] ++ (odL48 ++ (odL47 ++ odL51))), [], 3519, (.tuple [(Pp 3182 0), (.agg [(Ii 0), Se, (Ii 0)])]), odY12⟩]
def g17_13 : List Cert := [⟨3000, [odX352, (Sl 2324 0 1 1 2)], (odL50 ++ (odL49 ++ odL51)), [], 3469, (.tuple [(Pp 3168 0), (.agg [(Ii 0), Se, (Ii 0)])]), odY13⟩]
def l17 : List Cert := g17_0 ++ (g17_1 ++ (g17_2 ++ (g17_3 ++ (g17_4 ++ (g17_5 ++ (g17_6 ++ (g17_7 ++ (g17_8 ++ (g17_9 ++ (g17_10 ++ (g17_11 ++ (g17_12 ++ (g17_13)))))))))))))
def g18_0 : List Cert := [⟨4000, [(Pp 3154 0)], odY0, [], 4428, (.tuple [(Pp 4086 0), (Ii 0)]), odY14⟩]
def g18_1 : List Cert := [⟨4000, [(Pp 3154 0)], odY1, [], 4428, (.tuple [(Pp 4086 0), (Ii 0)]), odY15⟩]
def g18_2 : List Cert := [⟨4000, [(Pp 3158 0)], odY2, [], 4564, (.tuple [(Pp 4090 0), (Ii 0)]), odY16⟩]
def g18_3 : List Cert := [⟨4000, [(Pp 3156 0)], odY3, [], 4508, (.tuple [(Pp 4088 0), (Ii 0)]), odL84⟩]
def g18_4 : List Cert := [⟨4000, [(Pp 3158 0)], odY4, [], 4564, (.tuple [(Pp 4090 0), (Ii 0)]), odY17⟩]
def g18_5 : List Cert := [⟨4000, [(Pp 3174 0)], odY5, [], 4732, (.tuple [(Pp 4106 0), (Ii 0)]), odY18⟩]
def g18_6 : List Cert := [⟨4000, [(Pp 3154 0)], odY6, [], 4436, (.tuple [(Pp 4086 0), (Ii 0)]), odL87⟩]
def g18_7 : List Cert := [⟨4000, [(Pp 3158 0)], odY7, [], 4580, (.tuple [(Pp 4090 0), (Ii 0)]), odL88⟩]
def g18_8 : List Cert := [⟨4000, [(Pp 3156 0)], odY8, [], 4516, (.tuple [(Pp 4088 0), (Ii 0)]), odL89⟩]
def g18_9 : List Cert := [⟨4000, [(Pp 3170 0)], odY9, [], 4598, (.tuple [(Pp 4102 0), (Ii 0)]), odY19⟩]
def g18_10 : List Cert := [⟨4000, [(Pp 3170 0)], odY10, [], 4598, (.tuple [(Pp 4102 0), (Ii 0)]), odY20⟩]
def g18_11 : List Cert := [⟨4000, [(Pp 3170 0)], odY11, [], 4598, (.tuple [(Pp 4102 0), (Ii 0)]), odY21⟩]
def g18_12 : List Cert := [⟨4000, [(Pp 3182 0)], odY12, [], 4632, (.tuple [(Pp 4114 0), (Ii 0)]), odL94⟩]
def g18_13 : List Cert := [⟨4000, [(Pp 3168 0)], odY13, [], 4542, (.tuple [(Pp 4100 0), (Ii 0)]), odL95⟩]
def l18 : List Cert := g18_0 ++ (g18_1 ++ (g18_2 ++ (g18_3 ++ (g18_4 ++ (g18_5 ++ (g18_6 ++ (g18_7 ++ (g18_8 ++ (g18_9 ++ (g18_10 ++ (g18_11 ++ (g18_12 ++ (g18_13)))))))))))))
def g19_0 : List Cert := [⟨6000, [odX352, (.agg [(Ii 1), Se, .nilslice, .nilslice]), odX445], [], [], 6023, (.tuple [(Pp 6022 0), Se, (Ii 0)]), ([(6014, (.map [])), (6021, (Ce (Lf (.int .u64 (.ofNat 1))) 1 false))] ++ (odL96 ++ odL0))⟩]
def g19_1 : List Cert := [⟨6000, [odX352, (.agg [(Ii 1), Se, .nilslice, .nilslice]), odX446], [], [], 6023, (.tuple [(Pp 6022 0), Se, (Ii 0)]), ([(6014, (.map [])), (6021, (Ce (Lf (.int .u64 (.ofNat 0))) 1 false))] ++ (odL97 ++ odL0))⟩]
def l19 : List Cert := g19_0 ++ (g19_1)
def g21_0 : List Cert := [⟨11000, [(Pp 10000 0), (Pp 6022 0), (Pp 9002 0), odX444], ([(6014, (.map [])), (6021, (Ce (Lf (.int .u64 (.ofNat 1))) 1 false)), (10000, odX486), (10001, odX545)] ++ (odL113 ++ (odL114 ++ (odL96 ++ (odL115 ++ (odL112 ++ odL0)))))), [(9001, (.map []))], 11246, (.tuple [(Sn 11245 0 10 1), (Ii 0)]), odY86⟩]
def g21_1 : List Cert := [⟨11000, [(Pp 10000 0), (Pp 6022 0), (Pp 9002 0), odX444], ([(6014, (.map [])), (6021, (Ce (Lf (.int .u64 (.ofNat 0))) 1 false)), (10000, odX486), (10001, odX545)] ++ (odL113 ++ (odL114 ++ (odL97 ++ (odL115 ++ (odL112 ++ odL0)))))), [(9001, (.map []))], 11246, (.tuple [(Sn 11245 0 10 1), (Ii 0)]), odY86⟩]
def g21_2 : List Cert := [⟨11000, [(Pp 10000 0), (Pp 6022 0), (Pp 9002 0), odX444], ([(6014, (.map [])), (6021, (Ce (Lf (.int .u64 (.ofNat 1))) 1 false)), (10000, odX486), (10001, odX545)] ++ (odL116 ++ (odL114 ++ (odL96 ++ (odL115 ++ (odL112 ++ odL0)))))), [(9001, (.map []))], 11246, (.tuple [(Sn 11245 0 10 1), (Ii 0)]), odY86⟩]
def g21_3 : List Cert := [⟨11000, [(Pp 10000 0), (Pp 6022 0), (Pp 9002 0), odX444], ([(6014, (.map [])), (6021, (Ce (Lf (.int .u64 (.ofNat 0))) 1 false)), (10000, odX486), (10001, odX545)] ++ (odL116 ++ (odL114 ++ (odL97 ++ (odL115 ++ (odL112 ++ odL0)))))), [(9001, (.map []))], 11246, (.tuple [(Sn 11245 0 10 1), (Ii 0)]), odY86⟩]
def g21_4 : List Cert := [⟨11000, [(Pp 10000 0), (Pp 6022 0), (Pp 9002 0), odX444], ([(6014, (.map [])), (6021, (Ce (Lf (.int .u64 (.ofNat 1))) 1 false)), (10000, odX486), (10001, odX544)] ++ (odL117 ++ (odL96 ++ (odL112 ++ odL0)))), [(9001, (.map []))], 11153, (.tuple [(Sn 11152 0 10 1), (Ii 0)]), odY87⟩]
def g21_5 : List Cert := [⟨11000, [(Pp 10000 0), (Pp 6022 0), (Pp 9002 0), odX444], ([(6014, (.map [])), (6021, (Ce (Lf (.int .u64 (.ofNat 0))) 1 false)), (10000, odX486), (10001, odX544)] ++ (odL117 ++ (odL97 ++ (odL112 ++ odL0)))), [(9001, (.map []))], 11153, (.tuple [(Sn 11152 0 10 1), (Ii 0)]), odY87⟩]
def g21_6 : List Cert := [⟨11000, [(Pp 10000 0), (Pp 6022 0), (Pp 9002 0), odX444], ([(6014, (.map [])), (6021, (Ce (Lf (.int .u64 (.ofNat 1))) 1 false)), (10000, odX486), (10001, odX544)] ++ (odL118 ++ (odL96 ++ (odL112 ++ odL0)))), [(9001, (.map []))], 11153, (.tuple [(Sn 11152 0 10 1), (Ii 0)]), odY87⟩]
def g21_7 : List Cert := [⟨11000, [(Pp 10000 0), (Pp 6022 0), (Pp 9002 0), odX444], ([(6014, (.map [])), (6021, (Ce (Lf (.int .u64 (.ofNat 0))) 1 false)), (10000, odX486), (10001, odX544)] ++ (odL118 ++ (odL97 ++ (odL112 ++ odL0)))), [(9001, (.map []))], 11153, (.tuple [(Sn 11152 0 10 1), (Ii 0)]), odY87⟩]
def g21_8 : List Cert := [⟨11000, [(Pp 10000 0), (Pp 6022 0), (Pp 9002 0), odX444], ([(6014, (.map [])), (6021, (Ce (Lf (.int .u64 (.ofNat 0))) 1 false)), (10000, odX486), (10001, odX545)] ++ (odL119 ++ (odL114 ++ (odL97 ++ (odL115 ++ (odL112 ++ odL0)))))), [(9001, (.map []))], 11251, (.tuple [(Sn 11250 0 12 1), (Ii 0)]), odY88⟩]
def g21_9 : List Cert := [⟨11000, [(Pp 10000 0), (Pp 6022 0), (Pp 9002 0), odX444], ([(6014, (.map [])), (6021, (Ce (Lf (.int .u64 (.ofNat 1))) 1 false)), (10000, odX486), (10001, odX545)] ++ (odL119 ++ (odL114 ++ (odL96 ++ (odL115 ++ (odL112 ++ odL0)))))), [(9001, (.map []))], 11251, (.tuple [(Sn 11250 0 12 1), (Ii 0)]), odY88⟩]
def g21_10 : List Cert := [⟨11000, [(Pp 10000 0), (Pp 6022 0), (Pp 9002 0), odX444], ([(6014, (.map [])), (6021, (Ce (Lf (.int .u64 (.ofNat 0))) 1 false)), (10000, odX486), (10001, odX545)] ++ (odL120 ++ (odL114 ++ (odL97 ++ (odL115 ++ (odL112 ++ odL0)))))), [(9001, (.map []))], 11251, (.tuple [(Sn 11250 0 12 1), (Ii 0)]), odY88⟩]
def g21_11 : List Cert := [⟨11000, [(Pp 10000 0), (Pp 6022 0), (Pp 9002 0), odX444], ([(6014, (.map [])), (6021, (Ce (Lf (.int .u64 (.ofNat 1))) 1 false)), (10000, odX486), (10001, odX545)] ++ (odL120 ++ (odL114 ++ (odL96 ++ (odL115 ++ (odL112 ++ odL0)))))), [(9001, (.map []))], 11251, (.tuple [(Sn 11250 0 12 1), (Ii 0)]), odY88⟩]
def g21_12 : List Cert := [⟨11000, [(Pp 10000 0), (Pp 6022 0), (Pp 9002 0), odX444], ([(6014, (.map [])), (6021, (Ce (Lf (.int .u64 (.ofNat 0))) 1 false)), (10000, odX486), (10001, odX543)] ++ (odL121 ++ (odL97 ++ (odL112 ++ odL0)))), [(9001, (.map []))], 11166, (.tuple [(Sn 11165 0 12 1), (Ii 0)]), odY89⟩]
def g21_13 : List Cert := [⟨11000, [(Pp 10000 0), (Pp 6022 0), (Pp 9002 0), odX444], ([(6014, (.map [])), (6021, (Ce (Lf (.int .u64 (.ofNat 1))) 1 false)), (10000, odX486), (10001, odX543)] ++ (odL121 ++ (odL96 ++ (odL112 ++ odL0)))), [(9001, (.map []))], 11166, (.tuple [(Sn 11165 0 12 1), (Ii 0)]), odY89⟩]
def g21_14 : List Cert := [⟨11000, [(Pp 10000 0), (Pp 6022 0), (Pp 9002 0), odX444], ([(6014, (.map [])), (6021, (Ce (Lf (.int .u64 (.ofNat 0))) 1 false)), (10000, odX486), (10001, odX543)] ++ (odL122 ++ (odL97 ++ (odL112 ++ odL0)))), [(9001, (.map []))], 11166, (.tuple [(Sn 11165 0 12 1), (Ii 0)]), odY89⟩]
def g21_15 : List Cert := [⟨11000, [(Pp 10000 0), (Pp 6022 0), (Pp 9002 0), odX444], ([(6014, (.map [])), (6021, (Ce (Lf (.int .u64 (.ofNat 1))) 1 false)), (10000, odX486), (10001, odX543)] ++ (odL122 ++ (odL96 ++ (odL112 ++ odL0)))), [(9001, (.map []))], 11166, (.tuple [(Sn 11165 0 12 1), (Ii 0)]), odY89⟩]
def g21_16 : List Cert := [⟨11000, [(Pp 10000 0), (Pp 6022 0), (Pp 9002 0), odX444], ([(6014, (.map [])), (6021, (Ce (Lf (.int .u64 (.ofNat 1))) 1 false)), (10000, odX484), (10001, odX539)] ++ (odL123 ++ (odL96 ++ (odL125 ++ (odL124 ++ (odL112 ++ (odL0 ++ odL126))))))), [(9001, (.map []))], 11274, (.tuple [(Sn 11273 0 10 1), (Ii 0)]), odY90⟩]
def g21_17 : List Cert := [⟨11000, [(Pp 10000 0), (Pp 6022 0), (Pp 9002 0), odX444], ([(6014, (.map [])), (6021, (Ce (Lf (.int .u64 (.ofNat 0))) 1 false)), (10000, odX484), (10001, odX539)] ++ (odL123 ++ (odL97 ++ (odL125 ++ (odL124 ++ (odL112 ++ (odL0 ++ odL126))))))), [(9001, (.map []))], 11274, (.tuple [(Sn 11273 0 10 1), (Ii 0)]), odY90⟩]
def g21_18 : List Cert := [⟨11000, [(Pp 10000 0), (Pp 6022 0), (Pp 9002 0), odX444], ([(6014, (.map [])), (6021, (Ce (Lf (.int .u64 (.ofNat 1))) 1 false)), (10000, odX484), (10001, odX539)] ++ (odL127 ++ (odL128 ++ (odL96 ++ (odL115 ++ (odL112 ++ odL0)))))), [(9001, (.map []))], 11270, (.tuple [(Sn 11269 0 10 1), (Ii 0)]), odY91⟩]
def g21_19 : List Cert := [⟨11000, [(Pp 10000 0), (Pp 6022 0), (Pp 9002 0), odX444], ([(6014, (.map [])), (6021, (Ce (Lf (.int .u64 (.ofNat 0))) 1 false)), (10000, odX484), (10001, odX539)] ++ (odL127 ++ (odL128 ++ (odL97 ++ (odL115 ++ (odL112 ++ odL0)))))), [(9001, (.map []))], 11270, (.tuple [(Sn 11269 0 10 1), (Ii 0)]), odY91⟩]
def g21_20 : List Cert := [⟨11000, [(Pp 10000 0), (Pp 6022 0), (Pp 9002 0), odX444], ([(6014, (.map [])), (6021, (Ce (Lf (.int .u64 (.ofNat 1))) 1 false)), (10000, odX484), (10001, odX538)] ++ (odL129 ++ (odL96 ++ (odL124 ++ (odL112 ++ odL0))))), [(9001, (.map []))], 11181, (.tuple [(Sn 11180 0 10 1), (Ii 0)]), odY92⟩]
def g21_21 : List Cert := [⟨11000, [(Pp 10000 0), (Pp 6022 0), (Pp 9002 0), odX444], ([(6014, (.map [])), (6021, (Ce (Lf (.int .u64 (.ofNat 0))) 1 false)), (10000, odX484), (10001, odX538)] ++ (odL129 ++ (odL97 ++ (odL124 ++ (odL112 ++ odL0))))), [(9001, (.map []))], 11181, (.tuple [(Sn 11180 0 10 1), (Ii 0)]), odY92⟩]
def g21_22 : List Cert := [⟨11000, [(Pp 10000 0), (Pp 6022 0), (Pp 9002 0), odX444], ([(6014, (.map [])), (6021, (Ce (Lf (.int .u64 (.ofNat 1))) 1 false)), (10000, odX484), (10001, odX538)] ++ (odL130 ++ (odL96 ++ (odL112 ++ odL0)))), [(9001, (.map []))], 11177, (.tuple [(Sn 11176 0 10 1), (Ii 0)]), odY93⟩]
def g21_23 : List Cert := [⟨11000, [(Pp 10000 0), (Pp 6022 0), (Pp 9002 0), odX444], ([(6014, (.map [])), (6021, (Ce (Lf (.int .u64 (.ofNat 0))) 1 false)), (10000, odX484), (10001, odX538)] ++ (odL130 ++ (odL97 ++ (odL112 ++ odL0)))), [(9001, (.map []))], 11177, (.tuple [(Sn 11176 0 10 1), (Ii 0)]), odY93⟩]
def g21_24 : List Cert := [⟨11000, [(Pp 10000 0), (Pp 6022 0), (Pp 9002 0), odX444], ([(6014, (.map [])), (6021, (Ce (Lf (.int .u64 (.ofNat 0))) 1 false)), (10000, odX485), (10001, odX541)] ++ (odL131 ++ (odL133 ++ (odL132 ++ (odL97 ++ (odL112 ++ (odL0 ++ odL126))))))), [(9001, (.map []))], 11267, (.tuple [(Sn 11266 0 12 1), (Ii 0)]), odY94⟩]
def g21_25 : List Cert := [⟨11000, [(Pp 10000 0), (Pp 6022 0), (Pp 9002 0), odX444], ([(6014, (.map [])), (6021, (Ce (Lf (.int .u64 (.ofNat 1))) 1 false)), (10000, odX485), (10001, odX541)] ++ (odL131 ++ (odL133 ++ (odL132 ++ (odL96 ++ (odL112 ++ (odL0 ++ odL126))))))), [(9001, (.map []))], 11267, (.tuple [(Sn 11266 0 12 1), (Ii 0)]), odY94⟩]
def g21_26 : List Cert := [⟨11000, [(Pp 10000 0), (Pp 6022 0), (Pp 9002 0), odX444], ([(6014, (.map [])), (6021, (Ce (Lf (.int .u64 (.ofNat 0))) 1 false)), (10000, odX485), (10001, odX541)] ++ (odL134 ++ (odL97 ++ (odL115 ++ (odL112 ++ odL0))))), [(9001, (.map []))], 11263, (.tuple [(Sn 11262 0 12 1), (Ii 0)]), odY95⟩]
def g21_27 : List Cert := [⟨11000, [(Pp 10000 0), (Pp 6022 0), (Pp 9002 0), odX444], ([(6014, (.map [])), (6021, (Ce (Lf (.int .u64 (.ofNat 1))) 1 false)), (10000, odX485), (10001, odX541)] ++ (odL134 ++ (odL96 ++ (odL115 ++ (odL112 ++ odL0))))), [(9001, (.map []))], 11263, (.tuple [(Sn 11262 0 12 1), (Ii 0)]), odY95⟩]
def g21_28 : List Cert := [⟨11000, [(Pp 10000 0), (Pp 6022 0), (Pp 9002 0), odX444], ([(6014, (.map [])), (6021, (Ce (Lf (.int .u64 (.ofNat 0))) 1 false)), (10000, odX485), (10001, odX540)] ++ (odL135 ++ (odL132 ++ (odL97 ++ (odL112 ++ odL0))))), [(9001, (.map []))], 11182, (.tuple [(Sn 11181 0 12 1), (Ii 0)]), odY96⟩]
def g21_29 : List Cert := [⟨11000, [(Pp 10000 0), (Pp 6022 0), (Pp 9002 0), odX444], ([(6014, (.map [])), (6021, (Ce (Lf (.int .u64 (.ofNat 1))) 1 false)), (10000, odX485), (10001, odX540)] ++ (odL135 ++ (odL132 ++ (odL96 ++ (odL112 ++ odL0))))), [(9001, (.map []))], 11182, (.tuple [(Sn 11181 0 12 1), (Ii 0)]), odY96⟩]
def g21_30 : List Cert := [⟨11000, [(Pp 10000 0), (Pp 6022 0), (Pp 9002 0), odX444], ([(6014, (.map [])), (6021, (Ce (Lf (.int .u64 (.ofNat 0))) 1 false)), (10000, odX485), (10001, odX540)] ++ (odL136 ++ (odL97 ++ (odL112 ++ odL0)))), [(9001, (.map []))], 11178, (.tuple [(Sn 11177 0 12 1), (Ii 0)]), odY97⟩]
def g21_31 : List Cert := [⟨11000, [(Pp 10000 0), (Pp 6022 0), (Pp 9002 0), odX444], ([(6014, (.map [])), (6021, (Ce (Lf (.int .u64 (.ofNat 1))) 1 false)), (10000, odX485), (10001, odX540)] ++ (odL136 ++ (odL96 ++ (odL112 ++ odL0)))), [(9001, (.map []))], 11178, (.tuple [(Sn 11177 0 12 1), (Ii 0)]), odY97⟩]
def g21_32 : List Cert := [⟨11000, [(Pp 10000 0), (Pp 6022 0), (Pp 9002 0), odX444], ([(6014, (.map [])), (6021, (Ce (Lf (.int .u64 (.ofNat 1))) 1 false)), (10000, odX484), (10001, odX539)] ++ (odL137 ++ (odL96 ++ (odL125 ++ (odL124 ++ (odL112 ++ (odL0 ++ odL126))))))), [(9001, (.map []))], 11279, (.tuple [(Sn 11278 0 12 1), (Ii 0)]), odY98⟩]
def g21_33 : List Cert := [⟨11000, [(Pp 10000 0), (Pp 6022 0), (Pp 9002 0), odX444], ([(6014, (.map [])), (6021, (Ce (Lf (.int .u64 (.ofNat 0))) 1 false)), (10000, odX484), (10001, odX539)] ++ (odL137 ++ (odL97 ++ (odL125 ++ (odL124 ++ (odL112 ++ (odL0 ++ odL126))))))), [(9001, (.map []))], 11279, (.tuple [(Sn 11278 0 12 1), (Ii 0)]), odY98⟩]
def g21_34 : List Cert := [⟨11000, [(Pp 10000 0), (Pp 6022 0), (Pp 9002 0), odX444], ([(6014, (.map [])), (6021, (Ce (Lf (.int .u64 (.ofNat 1))) 1 false)), (10000, odX484), (10001, odX539)] ++ (odL138 ++ (odL128 ++ (odL96 ++ (odL115 ++ (odL112 ++ odL0)))))), [(9001, (.map []))], 11275, (.tuple [(Sn 11274 0 12 1), (Ii 0)]), odY99⟩]
def g21_35 : List Cert := [⟨11000, [(Pp 10000 0), (Pp 6022 0), (Pp 9002 0), odX444], ([(6014, (.map [])), (6021, (Ce (Lf (.int .u64 (.ofNat 0))) 1 false)), (10000, odX484), (10001, odX539)] ++ (odL138 ++ (odL128 ++ (odL97 ++ (odL115 ++ (odL112 ++ odL0)))))), [(9001, (.map []))], 11275, (.tuple [(Sn 11274 0 12 1), (Ii 0)]), odY99⟩]
def g21_36 : List Cert := [⟨11000, [(Pp 10000 0), (Pp 6022 0), (Pp 9002 0), odX444], ([(6014, (.map [])), (6021, (Ce (Lf (.int .u64 (.ofNat 1))) 1 false)), (10000, odX484), (10001, odX537)] ++ (odL139 ++ (odL140 ++ (odL96 ++ (odL112 ++ odL0))))), [(9001, (.map []))], 11194, (.tuple [(Sn 11193 0 12 1), (Ii 0)]), odY100⟩]
def g21_37 : List Cert := [⟨11000, [(Pp 10000 0), (Pp 6022 0), (Pp 9002 0), odX444], ([(6014, (.map [])), (6021, (Ce (Lf (.int .u64 (.ofNat 0))) 1 false)), (10000, odX484), (10001, odX537)] ++ (odL139 ++ (odL140 ++ (odL97 ++ (odL112 ++ odL0))))), [(9001, (.map []))], 11194, (.tuple [(Sn 11193 0 12 1), (Ii 0)]), odY100⟩]
def g21_38 : List Cert := [⟨11000, [(Pp 10000 0), (Pp 6022 0), (Pp 9002 0), odX444], ([(6014, (.map [])), (6021, (Ce (Lf (.int .u64 (.ofNat 1))) 1 false)), (10000, odX484), (10001, odX537)] ++ (odL141 ++ (odL96 ++ (odL112 ++ odL0)))), [(9001, (.map []))], 11190, (.tuple [(Sn 11189 0 12 1), (Ii 0)]), odY101⟩]
def g21_39 : List Cert := [⟨11000, [(Pp 10000 0), (Pp 6022 0), (Pp 9002 0), odX444], ([(6014, (.map [])), (6021, (Ce (Lf (.int .u64 (.ofNat 0))) 1 false)), (10000, odX484), (10001, odX537)] ++ (odL141 ++ (odL97 ++ (odL112 ++ odL0)))), [(9001, (.map []))], 11190, (.tuple [(Sn 11189 0 12 1), (Ii 0)]), odY101⟩]
def g21_40 : List Cert := [⟨11000, [(Pp 10000 0), (Pp 6022 0), (Pp 9002 0), odX444], ([(6014, (.map [])), (6021, (Ce (Lf (.int .u64 (.ofNat 0))) 1 false)), (10000, odX483), (10001, odX536)] ++ (odL142 ++ (odL143 ++ (odL97 ++ (odL112 ++ odL0))))), [(9001, (.map []))], 11314, (.tuple [(Sn 11313 0 10 1), (Ii 0)]), odY102⟩]
def g21_41 : List Cert := [⟨11000, [(Pp 10000 0), (Pp 6022 0), (Pp 9002 0), odX444], ([(6014, (.map [])), (6021, (Ce (Lf (.int .u64 (.ofNat 1))) 1 false)), (10000, odX483), (10001, odX536)] ++ (odL142 ++ (odL143 ++ (odL96 ++ (odL112 ++ odL0))))), [(9001, (.map []))], 11314, (.tuple [(Sn 11313 0 10 1), (Ii 0)]), odY102⟩]
def g21_42 : List Cert := [⟨11000, [(Pp 10000 0), (Pp 6022 0), (Pp 9002 0), odX444], ([(6014, (.map [])), (6021, (Ce (Lf (.int .u64 (.ofNat 0))) 1 false)), (10000, odX483), (10001, odX536)] ++ (odL144 ++ (odL97 ++ (odL115 ++ (odL112 ++ odL0))))), [(9001, (.map []))], 11306, (.tuple [(Sn 11305 0 10 1), (Ii 0)]), odY103⟩]
def g21_43 : List Cert := [⟨11000, [(Pp 10000 0), (Pp 6022 0), (Pp 9002 0), odX444], ([(6014, (.map [])), (6021, (Ce (Lf (.int .u64 (.ofNat 1))) 1 false)), (10000, odX483), (10001, odX536)] ++ (odL144 ++ (odL96 ++ (odL115 ++ (odL112 ++ odL0))))), [(9001, (.map []))], 11306, (.tuple [(Sn 11305 0 10 1), (Ii 0)]), odY103⟩]
def g21_44 : List Cert := [⟨11000, [(Pp 10000 0), (Pp 6022 0), (Pp 9002 0), odX444], ([(6014, (.map [])), (6021, (Ce (Lf (.int .u64 (.ofNat 0))) 1 false)), (10000, odX483), (10001, odX535)] ++ (odL145 ++ (odL143 ++ (odL97 ++ (odL112 ++ odL0))))), [(9001, (.map []))], 11221, (.tuple [(Sn 11220 0 10 1), (Ii 0)]), odY104⟩]
def g21_45 : List Cert := [⟨11000, [(Pp 10000 0), (Pp 6022 0), (Pp 9002 0), odX444], ([(6014, (.map [])), (6021, (Ce (Lf (.int .u64 (.ofNat 1))) 1 false)), (10000, odX483), (10001, odX535)] ++ (odL145 ++ (odL143 ++ (odL96 ++ (odL112 ++ odL0))))), [(9001, (.map []))], 11221, (.tuple [(Sn 11220 0 10 1), (Ii 0)]), odY104⟩]
def g21_46 : List Cert := [⟨11000, [(Pp 10000 0), (Pp 6022 0), (Pp 9002 0), odX444], ([(6014, (.map [])), (6021, (Ce (Lf (.int .u64 (.ofNat 0))) 1 false)), (10000, odX483), (10001, odX535)] ++ (odL146 ++ (odL97 ++ (odL112 ++ odL0)))), [(9001, (.map []))], 11213, (.tuple [(Sn 11212 0 10 1), (Ii 0)]), odY105⟩]
def g21_47 : List Cert := [⟨11000, [(Pp 10000 0), (Pp 6022 0), (Pp 9002 0), odX444], ([(6014, (.map [])), (6021, (Ce (Lf (.int .u64 (.ofNat 1))) 1 false)), (10000, odX483), (10001, odX535)] ++ (odL146 ++ (odL96 ++ (odL112 ++ odL0)))), [(9001, (.map []))], 11213, (.tuple [(Sn 11212 0 10 1), (Ii 0)]), odY105⟩]
def g21_48 : List Cert := [⟨11000, [(Pp 10000 0), (Pp 6022 0), (Pp 9002 0), odX444], ([(6014, (.map [])), (6021, (Ce (Lf (.int .u64 (.ofNat 1))) 1 false)), (10000, odX486), (10001, odX546)] ++ (odL147 ++ (odL96 ++ (odL115 ++ (odL112 ++ odL0))))), [(9001, (.map []))], 11234, (.tuple [(Sn 11233 0 10 1), (Ii 0)]), [(9001, (.map [((.str [102]), (Ii 1))])), (11233, odX213)]⟩]
def g21_49 : List Cert := [⟨11000, [(Pp 10000 0), (Pp 6022 0), (Pp 9002 0), odX444], ([(6014, (.map [])), (6021, (Ce (Lf (.int .u64 (.ofNat 0))) 1 false)), (10000, odX486), (10001, odX546)] ++ (odL147 ++ (odL97 ++ (odL115 ++ (odL112 ++ odL0))))), [(9001, (.map []))], 11239, (.tuple [(Sn 11238 0 12 1), (Ii 0)]), [(9001, (.map [((.str [102]), (Ii 1))])), (11238, odX191)]⟩]
def g21_50 : List Cert := [⟨11000, [(Pp 10000 0), (Pp 6022 0), (Pp 9002 0), odX444], ([(6014, (.map [])), (6021, (Ce (Lf (.int .u64 (.ofNat 1))) 1 false)), (10000, odX486), (10001, odX546)] ++ (odL148 ++ (odL96 ++ (odL112 ++ odL0)))), [(9001, (.map []))], 11183, (.tuple [(Sn 11182 0 10 1), (Ii 0)]), [(9001, (.map [((.str [102]), (Ii 1))])), (11182, odX213)]⟩]
def g21_51 : List Cert := [⟨11000, [(Pp 10000 0), (Pp 6022 0), (Pp 9002 0), odX444], ([(6014, (.map [])), (6021, (Ce (Lf (.int .u64 (.ofNat 0))) 1 false)), (10000, odX486), (10001, odX546)] ++ (odL148 ++ (odL97 ++ (odL112 ++ odL0)))), [(9001, (.map []))], 11185, (.tuple [(Sn 11184 0 12 1), (Ii 0)]), [(9001, (.map [((.str [102]), (Ii 1))])), (11184, odX191)]⟩]
def g21_52 : List Cert := [⟨11000, [(Pp 10000 0), (Pp 6022 0), (Pp 9002 0), odX444], ([(6014, (.map [])), (6021, (Ce (Lf (.int .u64 (.ofNat 0))) 1 false)), (10000, odX484), (10001, odX545)] ++ (odL149 ++ (odL150 ++ (odL151 ++ (odL97 ++ (odL112 ++ (odL0 ++ odL126))))))), [(9001, (.map []))], 11250, (.tuple [(Sn 11249 0 10 1), (Ii 0)]), odY106⟩]
def g21_53 : List Cert := [⟨11000, [(Pp 10000 0), (Pp 6022 0), (Pp 9002 0), odX444], ([(6014, (.map [])), (6021, (Ce (Lf (.int .u64 (.ofNat 1))) 1 false)), (10000, odX484), (10001, odX545)] ++ (odL149 ++ (odL150 ++ (odL151 ++ (odL96 ++ (odL112 ++ (odL0 ++ odL126))))))), [(9001, (.map []))], 11250, (.tuple [(Sn 11249 0 10 1), (Ii 0)]), odY106⟩]
def g21_54 : List Cert := [⟨11000, [(Pp 10000 0), (Pp 6022 0), (Pp 9002 0), odX444], ([(6014, (.map [])), (6021, (Ce (Lf (.int .u64 (.ofNat 0))) 1 false)), (10000, odX484), (10001, odX545)] ++ (odL152 ++ (odL150 ++ (odL153 ++ (odL97 ++ (odL112 ++ odL0)))))), [(9001, (.map []))], 11199, (.tuple [(Sn 11198 0 10 1), (Ii 0)]), odY107⟩]
def g21_55 : List Cert := [⟨11000, [(Pp 10000 0), (Pp 6022 0), (Pp 9002 0), odX444], ([(6014, (.map [])), (6021, (Ce (Lf (.int .u64 (.ofNat 1))) 1 false)), (10000, odX484), (10001, odX545)] ++ (odL152 ++ (odL150 ++ (odL153 ++ (odL96 ++ (odL112 ++ odL0)))))), [(9001, (.map []))], 11199, (.tuple [(Sn 11198 0 10 1), (Ii 0)]), odY107⟩]
def g21_56 : List Cert := [⟨11000, [(Pp 10000 0), (Pp 6022 0), (Pp 9002 0), odX444], ([(6014, (.map [])), (6021, (Ce (Lf (.int .u64 (.ofNat 1))) 1 false)), (10000, odX485), (10001, odX545)] ++ (odL154 ++ (odL155 ++ (odL151 ++ (odL96 ++ (odL112 ++ (odL0 ++ odL126))))))), [(9001, (.map []))], 11255, (.tuple [(Sn 11254 0 12 1), (Ii 0)]), [(9001, (.map [((.str [102]), (Ii 1))])), (11254, odX191)]⟩]
def g21_57 : List Cert := [⟨11000, [(Pp 10000 0), (Pp 6022 0), (Pp 9002 0), odX444], ([(6014, (.map [])), (6021, (Ce (Lf (.int .u64 (.ofNat 0))) 1 false)), (10000, odX485), (10001, odX545)] ++ (odL154 ++ (odL155 ++ (odL151 ++ (odL97 ++ (odL112 ++ (odL0 ++ odL126))))))), [(9001, (.map []))], 11250, (.tuple [(Sn 11249 0 10 1), (Ii 0)]), odY106⟩]
def g21_58 : List Cert := [⟨11000, [(Pp 10000 0), (Pp 6022 0), (Pp 9002 0), odX444], ([(6014, (.map [])), (6021, (Ce (Lf (.int .u64 (.ofNat 1))) 1 false)), (10000, odX485), (10001, odX545)] ++ (odL156 ++ (odL155 ++ (odL153 ++ (odL96 ++ (odL112 ++ odL0)))))), [(9001, (.map []))], 11201, (.tuple [(Sn 11200 0 12 1), (Ii 0)]), [(9001, (.map [((.str [102]), (Ii 1))])), (11200, odX191)]⟩]
def g21_59 : List Cert := [⟨11000, [(Pp 10000 0), (Pp 6022 0), (Pp 9002 0), odX444], ([(6014, (.map [])), (6021, (Ce (Lf (.int .u64 (.ofNat 0))) 1 false)), (10000, odX485), (10001, odX545)] ++ (odL156 ++ (odL155 ++ (odL153 ++ (odL97 ++ (odL112 ++ odL0)))))), [(9001, (.map []))], 11199, (.tuple [(Sn 11198 0 10 1), (Ii 0)]), odY107⟩]
def g21_60 : List Cert := [⟨11000, [(Pp 10000 0), (Pp 6022 0), (Pp 9002 0), odX444], ([(6014, (.map [])), (6021, (Ce (Lf (.int .u64 (.ofNat 1))) 1 false))] ++ (odL158 ++ (odL96 ++ (odL125 ++ (odL157 ++ (odL124 ++ (odL112 ++ (odL0 ++ odL126)))))))), [(9001, (.map []))], 11323, (.tuple [(Sn 11322 0 12 1), (Ii 0)]), odY108⟩]
def g21_61 : List Cert := [⟨11000, [(Pp 10000 0), (Pp 6022 0), (Pp 9002 0), odX444], ([(6014, (.map [])), (6021, (Ce (Lf (.int .u64 (.ofNat 0))) 1 false))] ++ (odL158 ++ (odL97 ++ (odL125 ++ (odL157 ++ (odL124 ++ (odL112 ++ (odL0 ++ odL126)))))))), [(9001, (.map []))], 11323, (.tuple [(Sn 11322 0 12 1), (Ii 0)]), odY108⟩]
def g21_62 : List Cert := [⟨11000, [(Pp 10000 0), (Pp 6022 0), (Pp 9002 0), odX444], ([(6014, (.map [])), (6021, (Ce (Lf (.int .u64 (.ofNat 1))) 1 false))] ++ (odL159 ++ (odL160 ++ (odL96 ++ (odL157 ++ (odL124 ++ (odL112 ++ odL0))))))), [(9001, (.map []))], 11269, (.tuple [(Sn 11268 0 12 1), (Ii 0)]), odY109⟩]
def g21_63 : List Cert := [⟨11000, [(Pp 10000 0), (Pp 6022 0), (Pp 9002 0), odX444], ([(6014, (.map [])), (6021, (Ce (Lf (.int .u64 (.ofNat 0))) 1 false))] ++ (odL159 ++ (odL160 ++ (odL97 ++ (odL157 ++ (odL124 ++ (odL112 ++ odL0))))))), [(9001, (.map []))], 11269, (.tuple [(Sn 11268 0 12 1), (Ii 0)]), odY109⟩]
def g21_64 : List Cert := [⟨11000, [(Pp 10000 0), (Pp 6022 0), (Pp 9002 0), odX444], ([(6014, (.map [])), (6021, (Ce (Lf (.int .u64 (.ofNat 0))) 1 false))] ++ (odL161 ++ (odL97 ++ (odL125 ++ (odL157 ++ (odL124 ++ (odL112 ++ (odL0 ++ odL126)))))))), [(9001, (.map []))], 11318, (.tuple [(Sn 11317 0 10 1), (Ii 0)]), odY110⟩]
def g21_65 : List Cert := [⟨11000, [(Pp 10000 0), (Pp 6022 0), (Pp 9002 0), odX444], ([(6014, (.map [])), (6021, (Ce (Lf (.int .u64 (.ofNat 1))) 1 false))] ++ (odL161 ++ (odL96 ++ (odL125 ++ (odL157 ++ (odL124 ++ (odL112 ++ (odL0 ++ odL126)))))))), [(9001, (.map []))], 11318, (.tuple [(Sn 11317 0 10 1), (Ii 0)]), odY110⟩]
def g21_66 : List Cert := [⟨11000, [(Pp 10000 0), (Pp 6022 0), (Pp 9002 0), odX444], ([(6014, (.map [])), (6021, (Ce (Lf (.int .u64 (.ofNat 0))) 1 false))] ++ (odL162 ++ (odL160 ++ (odL97 ++ (odL157 ++ (odL124 ++ (odL112 ++ odL0))))))), [(9001, (.map []))], 11267, (.tuple [(Sn 11266 0 10 1), (Ii 0)]), odY111⟩]
def g21_67 : List Cert := [⟨11000, [(Pp 10000 0), (Pp 6022 0), (Pp 9002 0), odX444], ([(6014, (.map [])), (6021, (Ce (Lf (.int .u64 (.ofNat 1))) 1 false))] ++ (odL162 ++ (odL160 ++ (odL96 ++ (odL157 ++ (odL124 ++ (odL112 ++ odL0))))))), [(9001, (.map []))], 11267, (.tuple [(Sn 11266 0 10 1), (Ii 0)]), odY111⟩]
def g21_68 : List Cert := [⟨11000, [(Pp 10000 0), (Pp 6022 0), (Pp 9002 0), odX444], ([(6014, (.map [])), (6021, (Ce (Lf (.int .u64 (.ofNat 1))) 1 false))] ++ (odL163 ++ (odL96 ++ (odL125 ++ (odL157 ++ (odL124 ++ (odL112 ++ (odL0 ++ odL126)))))))), [(9001, (.map []))], 11323, (.tuple [(Sn 11322 0 12 1), (Ii 0)]), odY108⟩]
def g21_69 : List Cert := [⟨11000, [(Pp 10000 0), (Pp 6022 0), (Pp 9002 0), odX444], ([(6014, (.map [])), (6021, (Ce (Lf (.int .u64 (.ofNat 0))) 1 false))] ++ (odL163 ++ (odL97 ++ (odL125 ++ (odL157 ++ (odL124 ++ (odL112 ++ (odL0 ++ odL126)))))))), [(9001, (.map []))], 11323, (.tuple [(Sn 11322 0 12 1), (Ii 0)]), odY108⟩]
def g21_70 : List Cert := [⟨11000, [(Pp 10000 0), (Pp 6022 0), (Pp 9002 0), odX444], ([(6014, (.map [])), (6021, (Ce (Lf (.int .u64 (.ofNat 1))) 1 false))] ++ (odL164 ++ (odL160 ++ (odL96 ++ (odL157 ++ (odL124 ++ (odL112 ++ odL0))))))), [(9001, (.map []))], 11269, (.tuple [(Sn 11268 0 12 1), (Ii 0)]), odY109⟩]
def g21_71 : List Cert := [⟨11000, [(Pp 10000 0), (Pp 6022 0), (Pp 9002 0), odX444], ([(6014, (.map [])), (6021, (Ce (Lf (.int .u64 (.ofNat 0))) 1 false))] ++ (odL164 ++ (odL160 ++ (odL97 ++ (odL157 ++ (odL124 ++ (odL112 ++ odL0))))))), [(9001, (.map []))], 11269, (.tuple [(Sn 11268 0 12 1), (Ii 0)]), odY109⟩]
def g21_72 : List Cert := [⟨11000, [(Pp 10000 0), (Pp 6022 0), (Pp 9002 0), odX444], ([(6014, (.map [])), (6021, (Ce (Lf (.int .u64 (.ofNat 0))) 1 false)), (10000, odX482), (10001, odX538)] ++ (odL165 ++ (odL140 ++ (odL97 ++ (odL125 ++ (odL112 ++ (odL0 ++ odL126))))))), [(9001, (.map []))], 11367, (.tuple [(Sn 11366 0 12 1), (Ii 0)]), odY112⟩]
def g21_73 : List Cert := [⟨11000, [(Pp 10000 0), (Pp 6022 0), (Pp 9002 0), odX444], ([(6014, (.map [])), (6021, (Ce (Lf (.int .u64 (.ofNat 1))) 1 false)), (10000, odX482), (10001, odX538)] ++ (odL165 ++ (odL140 ++ (odL96 ++ (odL125 ++ (odL112 ++ (odL0 ++ odL126))))))), [(9001, (.map []))], 11367, (.tuple [(Sn 11366 0 12 1), (Ii 0)]), odY112⟩]
def g21_74 : List Cert := [⟨11000, [(Pp 10000 0), (Pp 6022 0), (Pp 9002 0), odX444], ([(6014, (.map [])), (6021, (Ce (Lf (.int .u64 (.ofNat 0))) 1 false)), (10000, odX482), (10001, odX538)] ++ (odL166 ++ (odL140 ++ (odL160 ++ (odL97 ++ (odL112 ++ odL0)))))), [(9001, (.map []))], 11313, (.tuple [(Sn 11312 0 12 1), (Ii 0)]), odY113⟩]
def g21_75 : List Cert := [⟨11000, [(Pp 10000 0), (Pp 6022 0), (Pp 9002 0), odX444], ([(6014, (.map [])), (6021, (Ce (Lf (.int .u64 (.ofNat 1))) 1 false)), (10000, odX482), (10001, odX538)] ++ (odL166 ++ (odL140 ++ (odL160 ++ (odL96 ++ (odL112 ++ odL0)))))), [(9001, (.map []))], 11313, (.tuple [(Sn 11312 0 12 1), (Ii 0)]), odY113⟩]
def g21_76 : List Cert := [⟨11000, [(Pp 10000 0), (Pp 6022 0), (Pp 9002 0), odX444], ([(6014, (.map [])), (6021, (Ce (Lf (.int .u64 (.ofNat 1))) 1 false))] ++ (odL168 ++ (odL133 ++ (odL167 ++ (odL132 ++ (odL96 ++ (odL112 ++ (odL0 ++ odL126)))))))), [(9001, (.map []))], 11311, (.tuple [(Sn 11310 0 11 1), (Ii 0)]), odY114⟩]
def g21_77 : List Cert := [⟨11000, [(Pp 10000 0), (Pp 6022 0), (Pp 9002 0), odX444], ([(6014, (.map [])), (6021, (Ce (Lf (.int .u64 (.ofNat 0))) 1 false))] ++ (odL168 ++ (odL133 ++ (odL167 ++ (odL132 ++ (odL97 ++ (odL112 ++ (odL0 ++ odL126)))))))), [(9001, (.map []))], 11311, (.tuple [(Sn 11310 0 11 1), (Ii 0)]), odY114⟩]
def g21_78 : List Cert := [⟨11000, [(Pp 10000 0), (Pp 6022 0), (Pp 9002 0), odX444], ([(6014, (.map [])), (6021, (Ce (Lf (.int .u64 (.ofNat 1))) 1 false))] ++ (odL169 ++ (odL167 ++ (odL132 ++ (odL96 ++ (odL112 ++ odL0)))))), [(9001, (.map []))], 11257, (.tuple [(Sn 11256 0 11 1), (Ii 0)]), odY115⟩]
def g21_79 : List Cert := [⟨11000, [(Pp 10000 0), (Pp 6022 0), (Pp 9002 0), odX444], ([(6014, (.map [])), (6021, (Ce (Lf (.int .u64 (.ofNat 0))) 1 false))] ++ (odL169 ++ (odL167 ++ (odL132 ++ (odL97 ++ (odL112 ++ odL0)))))), [(9001, (.map []))], 11257, (.tuple [(Sn 11256 0 11 1), (Ii 0)]), odY115⟩]
def l21 : List Cert := g21_0 ++ (g21_1 ++ (g21_2 ++ (g21_3 ++ (g21_4 ++ (g21_5 ++ (g21_6 ++ (g21_7 ++ (g21_8 ++ (g21_9 ++ (g21_10 ++ (g21_11 ++ (g21_12 ++ (g21_13 ++ (g21_14 ++ (g21_15 ++ (g21_16 ++ (g21_17 ++ (g21_18 ++ (g21_19 ++ (g21_20 ++ (g21_21 ++ (g21_22 ++ (g21_23 ++ (g21_24 ++ (g21_25 ++ (g21_26 ++ (g21_27 ++ (g21_28 ++ (g21_29 ++ (g21_30 ++ (g21_31 ++ (g21_32 ++ (g21_33 ++ (g21_34 ++ (g21_35 ++ (g21_36 ++ (g21_37 ++ (g21_38 ++ (g21_39 ++ (g21_40 ++ (g21_41 ++ (g21_42 ++ (g21_43 ++ (g21_44 ++ (g21_45 ++ (g21_46 ++ (g21_47 ++ (g21_48 ++ (g21_49 ++ (g21_50 ++ (g21_51 ++ (g21_52 ++ (g21_53 ++ (g21_54 ++ (g21_55 ++ (g21_56 ++ (g21_57 ++ (g21_58 ++ (g21_59 ++ (g21_60 ++ (g21_61 ++ (g21_62 ++ (g21_63 ++ (g21_64 ++ (g21_65 ++ (g21_66 ++ (g21_67 ++ (g21_68 ++ (g21_69 ++ (g21_70 ++ (g21_71 ++ (g21_72 ++ (g21_73 ++ (g21_74 ++ (g21_75 ++ (g21_76 ++ (g21_77 ++ (g21_78 ++ (g21_79)))))))))))))))))))))))))))))))))))))))))))))))))))))))))))))))))))))))))))))))
def g22_0 : List Cert := [⟨9000, [(Sl 270 0 1 1 3)], odL98, [], 9027, (Pp 9002 0), odY45⟩]
def g22_1 : List Cert := [⟨9000, [(Sl 271 0 1 1 3)], odL100, [], 9027, (Pp 9002 0), odY45⟩]
def l22 : List Cert := g22_0 ++ (g22_1)
def g25_0 : List Cert := [⟨5000, [odX352, (.agg [(Ii 1), Se, .nilslice, .nilslice]), odX445], [], [], 5009, (.tuple [odX445, (Ii 0)]), []⟩]
def g25_1 : List Cert := [⟨5000, [odX352, (.agg [(Ii 1), Se, .nilslice, .nilslice]), odX446], [], [], 5009, (.tuple [odX446, (Ii 0)]), []⟩]
def l25 : List Cert := g25_0 ++ (g25_1)
def g27_0 : List CertN := [⟨10000, [(Pp 4086 0), (.cls 16 0)], odY14, [10001, 10000, 10004, 10026, 10038, 10034, 10012, 10020], (Pp 10000 0), odY46⟩]
def g27_1 : List CertN := [⟨10000, [(Pp 4086 0), (.cls 16 1)], odY14, [10001, 10000, 10004, 10026, 10038, 10034, 10012, 10020], (Pp 10000 0), odY47⟩]
def g27_2 : List CertN := [⟨10000, [(Pp 4086 0), (.cls 16 2)], odY14, [10001, 10000, 10430], (Pp 10000 0), odY48⟩]
def g27_3 : List CertN := [⟨10000, [(Pp 4086 0), (.cls 16 3)], odY14, [10001, 10000, 10511], (Pp 10000 0), odY49⟩]
def g27_4 : List CertN := [⟨10000, [(Pp 4086 0), (.cls 16 4)], odY14, [10001, 10000, 10396, 10338, 10320, 10304, 10290, 10272], (Pp 10000 0), odY46⟩]
def g27_5 : List CertN := [⟨10000, [(Pp 4086 0), (.cls 16 5)], odY14, [10001, 10000, 10477, 10419, 10401, 10385, 10371, 10353], (Pp 10000 0), odY47⟩]
def g27_6 : List CertN := [⟨10000, [(Pp 4086 0), (.cls 16 6)], odY14, [10001, 10000, 10510], (Pp 10000 0), odY48⟩]
def g27_7 : List CertN := [⟨10000, [(Pp 4086 0), (.cls 16 7)], odY14, [10001, 10000, 10591], (Pp 10000 0), odY49⟩]
def g27_8 : List CertN := [⟨10000, [(Pp 4086 0), (.cls 16 8)], odY14, [10001, 10000, 10399, 10341, 10323, 10307, 10293, 10275], (Pp 10000 0), odY46⟩]
def g27_9 : List CertN := [⟨10000, [(Pp 4086 0), (.cls 16 9)], odY14, [10001, 10000, 10480, 10422, 10404, 10388, 10374, 10356], (Pp 10000 0), odY47⟩]
def g27_10 : List CertN := [⟨10000, [(Pp 4086 0), (.cls 16 10)], odY14, [10001, 10000, 10513], (Pp 10000 0), odY48⟩]
def g27_11 : List CertN := [⟨10000, [(Pp 4086 0), (.cls 16 11)], odY14, [10001, 10000, 10594], (Pp 10000 0), odY49⟩]
def g27_12 : List CertN := [⟨10000, [(Pp 4086 0), (.cls 16 12)], odY14, [10001, 10000, 10551, 10493, 10475, 10459, 10445, 10427], (Pp 10000 0), odY46⟩]
def g27_13 : List CertN := [⟨10000, [(Pp 4086 0), (.cls 16 13)], odY14, [10001, 10000, 10632, 10574, 10556, 10540, 10526, 10508], (Pp 10000 0), odY47⟩]
def g27_14 : List CertN := [⟨10000, [(Pp 4086 0), (.cls 16 14)], odY14, [10001, 10000, 10593], (Pp 10000 0), odY48⟩]
def g27_15 : List CertN := [⟨10000, [(Pp 4086 0), (.cls 16 15)], odY14, [10001, 10000, 10674], (Pp 10000 0), odY49⟩]
def g27_16 : List CertN := [⟨10000, [(Pp 4086 0), (.cls 16 0)], odY15, [10001, 10000, 10004, 10026, 10038, 10034, 10012, 10020], (Pp 10000 0), odY50⟩]
def g27_17 : List CertN := [⟨10000, [(Pp 4086 0), (.cls 16 1)], odY15, [10001, 10000, 10004, 10026, 10038, 10034, 10012, 10020], (Pp 10000 0), odY51⟩]
def g27_18 : List CertN := [⟨10000, [(Pp 4086 0), (.cls 16 2)], odY15, [10001, 10000, 10430], (Pp 10000 0), odY52⟩]
def g27_19 : List CertN := [⟨10000, [(Pp 4086 0), (.cls 16 3)], odY15, [10001, 10000, 10511], (Pp 10000 0), odY53⟩]
def g27_20 : List CertN := [⟨10000, [(Pp 4086 0), (.cls 16 4)], odY15, [10001, 10000, 10396, 10338, 10320, 10304, 10290, 10272], (Pp 10000 0), odY50⟩]
def g27_21 : List CertN := [⟨10000, [(Pp 4086 0), (.cls 16 5)], odY15, [10001, 10000, 10477, 10419, 10401, 10385, 10371, 10353], (Pp 10000 0), odY51⟩]
def g27_22 : List CertN := [⟨10000, [(Pp 4086 0), (.cls 16 6)], odY15, [10001, 10000, 10518], (Pp 10000 0), odY52⟩]
def g27_23 : List CertN := [⟨10000, [(Pp 4086 0), (.cls 16 7)], odY15, [10001, 10000, 10599], (Pp 10000 0), odY53⟩]
def g27_24 : List CertN := [⟨10000, [(Pp 4086 0), (.cls 16 8)], odY15, [10001, 10000, 10399, 10341, 10323, 10307, 10293, 10275], (Pp 10000 0), odY50⟩]
def g27_25 : List CertN := [⟨10000, [(Pp 4086 0), (.cls 16 9)], odY15, [10001, 10000, 10480, 10422, 10404, 10388, 10374, 10356], (Pp 10000 0), odY51⟩]
def g27_26 : List CertN := [⟨10000, [(Pp 4086 0), (.cls 16 10)], odY15, [10001, 10000, 10521], (Pp 10000 0), odY52⟩]
def g27_27 : List CertN := [⟨10000, [(Pp 4086 0), (.cls 16 11)], odY15, [10001, 10000, 10602], (Pp 10000 0), odY53⟩]
def g27_28 : List CertN := [⟨10000, [(Pp 4086 0), (.cls 16 12)], odY15, [10001, 10000, 10551, 10493, 10475, 10459, 10445, 10427], (Pp 10000 0), odY50⟩]
def g27_29 : List CertN := [⟨10000, [(Pp 4086 0), (.cls 16 13)], odY15, [10001, 10000, 10632, 10574, 10556, 10540, 10526, 10508], (Pp 10000 0), odY51⟩]
def g27_30 : List CertN := [⟨10000, [(Pp 4086 0), (.cls 16 14)], odY15, [10001, 10000, 10609], (Pp 10000 0), odY52⟩]
def g27_31 : List CertN := [⟨10000, [(Pp 4086 0), (.cls 16 15)], odY15, [10001, 10000, 10690], (Pp 10000 0), odY53⟩]
def g27_32 : List CertN := [⟨10000, [(Pp 4090 0), (.cls 16 0)], odY16, [10001, 10000, 10004, 10053, 10013, 10030, 10042, 10038, 10016, 10024], (Pp 10000 0), odY54⟩]
def g27_33 : List CertN := [⟨10000, [(Pp 4090 0), (.cls 16 1)], odY16, [10001, 10000, 10004, 10030, 10042, 10038, 10016, 10024], (Pp 10000 0), odY55⟩]
def g27_34 : List CertN := [⟨10000, [(Pp 4090 0), (.cls 16 2)], odY16, [10001, 10000, 10494, 10053, 10013], (Pp 10000 0), odY56⟩]
def g27_35 : List CertN := [⟨10000, [(Pp 4090 0), (.cls 16 3)], odY16, [10001, 10000, 10591], (Pp 10000 0), odY57⟩]
def g27_36 : List CertN := [⟨10000, [(Pp 4090 0), (.cls 16 4)], odY16, [10001, 10000, 10456, 10053, 10013, 10384, 10366, 10350, 10336, 10318], (Pp 10000 0), odY54⟩]
def g27_37 : List CertN := [⟨10000, [(Pp 4090 0), (.cls 16 5)], odY16, [10001, 10000, 10553, 10481, 10463, 10447, 10433, 10415], (Pp 10000 0), odY55⟩]
def g27_38 : List CertN := [⟨10000, [(Pp 4090 0), (.cls 16 6)], odY16, [10001, 10000, 10590, 10053, 10013], (Pp 10000 0), odY56⟩]
def g27_39 : List CertN := [⟨10000, [(Pp 4090 0), (.cls 16 7)], odY16, [10001, 10000, 10687], (Pp 10000 0), odY57⟩]
def g27_40 : List CertN := [⟨10000, [(Pp 4090 0), (.cls 16 8)], odY16, [10001, 10000, 10459, 10053, 10013, 10387, 10369, 10353, 10339, 10321], (Pp 10000 0), odY54⟩]
def g27_41 : List CertN := [⟨10000, [(Pp 4090 0), (.cls 16 9)], odY16, [10001, 10000, 10556, 10484, 10466, 10450, 10436, 10418], (Pp 10000 0), odY55⟩]
def g27_42 : List CertN := [⟨10000, [(Pp 4090 0), (.cls 16 10)], odY16, [10001, 10000, 10593, 10053, 10013], (Pp 10000 0), odY56⟩]
def g27_43 : List CertN := [⟨10000, [(Pp 4090 0), (.cls 16 11)], odY16, [10001, 10000, 10690], (Pp 10000 0), odY57⟩]
def g27_44 : List CertN := [⟨10000, [(Pp 4090 0), (.cls 16 12)], odY16, [10001, 10000, 10627, 10053, 10013, 10555, 10537, 10521, 10507, 10489], (Pp 10000 0), odY54⟩]
def g27_45 : List CertN := [⟨10000, [(Pp 4090 0), (.cls 16 13)], odY16, [10001, 10000, 10724, 10652, 10634, 10618, 10604, 10586], (Pp 10000 0), odY55⟩]
def g27_46 : List CertN := [⟨10000, [(Pp 4090 0), (.cls 16 14)], odY16, [10001, 10000, 10689, 10053, 10013], (Pp 10000 0), odY56⟩]
def g27_47 : List CertN := [⟨10000, [(Pp 4090 0), (.cls 16 15)], odY16, [10001, 10000, 10786], (Pp 10000 0), odY57⟩]
def g27_48 : List CertN := [⟨10000, [(Pp 4088 0), (.cls 16 0)], odL84, [10001, 10000, 10004, 10051, 10012, 10029, 10041, 10037, 10015, 10023], (Pp 10000 0), odY58⟩]
def g27_49 : List CertN := [⟨10000, [(Pp 4088 0), (.cls 16 1)], odL84, [10001, 10000, 10004, 10029, 10041, 10037, 10015, 10023], (Pp 10000 0), odY59⟩]
def g27_50 : List CertN := [⟨10000, [(Pp 4088 0), (.cls 16 2)], odL84, [10001, 10000, 10472, 10051, 10012], (Pp 10000 0), odY60⟩]
def g27_51 : List CertN := [⟨10000, [(Pp 4088 0), (.cls 16 3)], odL84, [10001, 10000, 10565], (Pp 10000 0), odY61⟩]
def g27_52 : List CertN := [⟨10000, [(Pp 4088 0), (.cls 16 4)], odL84, [10001, 10000, 10436, 10051, 10012, 10371, 10353, 10337, 10323, 10305], (Pp 10000 0), odY58⟩]
def g27_53 : List CertN := [⟨10000, [(Pp 4088 0), (.cls 16 5)], odL84, [10001, 10000, 10529, 10464, 10446, 10430, 10416, 10398], (Pp 10000 0), odY59⟩]
def g27_54 : List CertN := [⟨10000, [(Pp 4088 0), (.cls 16 6)], odL84, [10001, 10000, 10568, 10051, 10012], (Pp 10000 0), odY60⟩]
def g27_55 : List CertN := [⟨10000, [(Pp 4088 0), (.cls 16 7)], odL84, [10001, 10000, 10661], (Pp 10000 0), odY61⟩]
def g27_56 : List CertN := [⟨10000, [(Pp 4088 0), (.cls 16 8)], odL84, [10001, 10000, 10439, 10051, 10012, 10374, 10356, 10340, 10326, 10308], (Pp 10000 0), odY58⟩]
def g27_57 : List CertN := [⟨10000, [(Pp 4088 0), (.cls 16 9)], odL84, [10001, 10000, 10532, 10467, 10449, 10433, 10419, 10401], (Pp 10000 0), odY59⟩]
def g27_58 : List CertN := [⟨10000, [(Pp 4088 0), (.cls 16 10)], odL84, [10001, 10000, 10571, 10051, 10012], (Pp 10000 0), odY60⟩]
def g27_59 : List CertN := [⟨10000, [(Pp 4088 0), (.cls 16 11)], odL84, [10001, 10000, 10664], (Pp 10000 0), odY61⟩]
def g27_60 : List CertN := [⟨10000, [(Pp 4088 0), (.cls 16 12)], odL84, [10001, 10000, 10599, 10051, 10012, 10534, 10516, 10500, 10486, 10468], (Pp 10000 0), odY58⟩]
def g27_61 : List CertN := [⟨10000, [(Pp 4088 0), (.cls 16 13)], odL84, [10001, 10000, 10692, 10627, 10609, 10593, 10579, 10561], (Pp 10000 0), odY59⟩]
def g27_62 : List CertN := [⟨10000, [(Pp 4088 0), (.cls 16 14)], odL84, [10001, 10000, 10667, 10051, 10012], (Pp 10000 0), odY60⟩]
def g27_63 : List CertN := [⟨10000, [(Pp 4088 0), (.cls 16 15)], odL84, [10001, 10000, 10760], (Pp 10000 0), odY61⟩]
def g27_64 : List CertN := [⟨10000, [(Pp 4090 0), (.cls 16 0)], odY17, [10001, 10000, 10004, 10053, 10013, 10030, 10042, 10038, 10016, 10024], (Pp 10000 0), odY62⟩]
def g27_65 : List CertN := [⟨10000, [(Pp 4090 0), (.cls 16 1)], odY17, [10001, 10000, 10004, 10030, 10042, 10038, 10016, 10024], (Pp 10000 0), odY63⟩]
def g27_66 : List CertN := [⟨10000, [(Pp 4090 0), (.cls 16 2)], odY17, [10001, 10000, 10498, 10013, 10053], (Pp 10000 0), odY64⟩]
def g27_67 : List CertN := [⟨10000, [(Pp 4090 0), (.cls 16 3)], odY17, [10001, 10000, 10595], (Pp 10000 0), odY65⟩]
def g27_68 : List CertN := [⟨10000, [(Pp 4090 0), (.cls 16 4)], odY17, [10001, 10000, 10460, 10053, 10013, 10388, 10370, 10354, 10340, 10322], (Pp 10000 0), odY62⟩]
def g27_69 : List CertN := [⟨10000, [(Pp 4090 0), (.cls 16 5)], odY17, [10001, 10000, 10557, 10485, 10467, 10451, 10437, 10419], (Pp 10000 0), odY63⟩]
def g27_70 : List CertN := [⟨10000, [(Pp 4090 0), (.cls 16 6)], odY17, [10001, 10000, 10602, 10013, 10053], (Pp 10000 0), odY64⟩]
def g27_71 : List CertN := [⟨10000, [(Pp 4090 0), (.cls 16 7)], odY17, [10001, 10000, 10699], (Pp 10000 0), odY65⟩]
def g27_72 : List CertN := [⟨10000, [(Pp 4090 0), (.cls 16 8)], odY17, [10001, 10000, 10463, 10053, 10013, 10391, 10373, 10357, 10343, 10325], (Pp 10000 0), odY62⟩]
def g27_73 : List CertN := [⟨10000, [(Pp 4090 0), (.cls 16 9)], odY17, [10001, 10000, 10560, 10488, 10470, 10454, 10440, 10422], (Pp 10000 0), odY63⟩]
def g27_74 : List CertN := [⟨10000, [(Pp 4090 0), (.cls 16 10)], odY17, [10001, 10000, 10605, 10013, 10053], (Pp 10000 0), odY64⟩]
def g27_75 : List CertN := [⟨10000, [(Pp 4090 0), (.cls 16 11)], odY17, [10001, 10000, 10702], (Pp 10000 0), odY65⟩]
def g27_76 : List CertN := [⟨10000, [(Pp 4090 0), (.cls 16 12)], odY17, [10001, 10000, 10631, 10053, 10013, 10559, 10541, 10525, 10511, 10493], (Pp 10000 0), odY62⟩]
def g27_77 : List CertN := [⟨10000, [(Pp 4090 0), (.cls 16 13)], odY17, [10001, 10000, 10728, 10656, 10638, 10622, 10608, 10590], (Pp 10000 0), odY63⟩]
def g27_78 : List CertN := [⟨10000, [(Pp 4090 0), (.cls 16 14)], odY17, [10001, 10000, 10709, 10013, 10053], (Pp 10000 0), odY64⟩]
def g27_79 : List CertN := [⟨10000, [(Pp 4090 0), (.cls 16 15)], odY17, [10001, 10000, 10806], (Pp 10000 0), odY65⟩]
def g27_80 : List CertN := [⟨10000, [(Pp 4106 0), (.cls 16 0)], odY18, [10001, 10000, 10004, 10015, 10063, 10018, 10060, 10035, 10047, 10043, 10021, 10029], (Pp 10000 0), odY66⟩]
def g27_81 : List CertN := [⟨10000, [(Pp 4106 0), (.cls 16 1)], odY18, [10001, 10000, 10004, 10035, 10047, 10043, 10021, 10029], (Pp 10000 0), odY67⟩]
def g27_82 : List CertN := [⟨10000, [(Pp 4106 0), (.cls 16 2)], odY18, [10001, 10000, 10588, 10015, 10063, 10018, 10060], (Pp 10000 0), odY68⟩]
def g27_83 : List CertN := [⟨10000, [(Pp 4106 0), (.cls 16 3)], odY18, [10001, 10000, 10705], (Pp 10000 0), odY69⟩]
def g27_84 : List CertN := [⟨10000, [(Pp 4106 0), (.cls 16 4)], odY18, [10001, 10000, 10544, 10015, 10063, 10018, 10060, 10451, 10433, 10417, 10403, 10385], (Pp 10000 0), odY66⟩]
def g27_85 : List CertN := [⟨10000, [(Pp 4106 0), (.cls 16 5)], odY18, [10001, 10000, 10661, 10568, 10550, 10534, 10520, 10502], (Pp 10000 0), odY67⟩]
def g27_86 : List CertN := [⟨10000, [(Pp 4106 0), (.cls 16 6)], odY18, [10001, 10000, 10708, 10015, 10063, 10018, 10060], (Pp 10000 0), odY68⟩]
def g27_87 : List CertN := [⟨10000, [(Pp 4106 0), (.cls 16 7)], odY18, [10001, 10000, 10825], (Pp 10000 0), odY69⟩]
def g27_88 : List CertN := [⟨10000, [(Pp 4106 0), (.cls 16 8)], odY18, [10001, 10000, 10547, 10015, 10063, 10018, 10060, 10454, 10436, 10420, 10406, 10388], (Pp 10000 0), odY66⟩]
def g27_89 : List CertN := [⟨10000, [(Pp 4106 0), (.cls 16 9)], odY18, [10001, 10000, 10664, 10571, 10553, 10537, 10523, 10505], (Pp 10000 0), odY67⟩]
def g27_90 : List CertN := [⟨10000, [(Pp 4106 0), (.cls 16 10)], odY18, [10001, 10000, 10711, 10015, 10063, 10018, 10060], (Pp 10000 0), odY68⟩]
def g27_91 : List CertN := [⟨10000, [(Pp 4106 0), (.cls 16 11)], odY18, [10001, 10000, 10828], (Pp 10000 0), odY69⟩]
def g27_92 : List CertN := [⟨10000, [(Pp 4106 0), (.cls 16 12)], odY18, [10001, 10000, 10739, 10015, 10063, 10018, 10060, 10646, 10628, 10612, 10598, 10580], (Pp 10000 0), odY66⟩]
def g27_93 : List CertN := [⟨10000, [(Pp 4106 0), (.cls 16 13)], odY18, [10001, 10000, 10856, 10763, 10745, 10729, 10715, 10697], (Pp 10000 0), odY67⟩]
def g27_94 : List CertN := [⟨10000, [(Pp 4106 0), (.cls 16 14)], odY18, [10001, 10000, 10831, 10015, 10063, 10018, 10060], (Pp 10000 0), odY68⟩]
def g27_95 : List CertN := [⟨10000, [(Pp 4106 0), (.cls 16 15)], odY18, [10001, 10000, 10948], (Pp 10000 0), odY69⟩]
def g27_96 : List CertN := [⟨10000, [(Pp 4086 0), (.cls 16 0)], odL87, [10001, 10000, 10004, 10025, 10037, 10033, 10011, 10019], (Pp 10000 0), odY70⟩]
def g27_97 : List CertN := [⟨10000, [(Pp 4086 0), (.cls 16 1)], odL87, [10001, 10000, 10004, 10025, 10037, 10033, 10011, 10019], (Pp 10000 0), odY70⟩]
def g27_98 : List CertN := [⟨10000, [(Pp 4086 0), (.cls 16 2)], odL87, [10001, 10000, 10409, 10344, 10283], (Pp 10000 0), odY71⟩]
def g27_99 : List CertN := [⟨10000, [(Pp 4086 0), (.cls 16 3)], odL87, [10001, 10000, 10485, 10420, 10359], (Pp 10000 0), odY71⟩]
def g27_100 : List CertN := [⟨10000, [(Pp 4086 0), (.cls 16 4)], odL87, [10001, 10000, 10376, 10325, 10307, 10291, 10277, 10259], (Pp 10000 0), odY70⟩]
def g27_101 : List CertN := [⟨10000, [(Pp 4086 0), (.cls 16 5)], odL87, [10001, 10000, 10452, 10401, 10383, 10367, 10353, 10335], (Pp 10000 0), odY70⟩]
def g27_102 : List CertN := [⟨10000, [(Pp 4086 0), (.cls 16 6)], odL87, [10001, 10000, 10513, 10462, 10434], (Pp 10000 0), odY71⟩]
def g27_103 : List CertN := [⟨10000, [(Pp 4086 0), (.cls 16 7)], odL87, [10001, 10000, 10589, 10538, 10510], (Pp 10000 0), odY71⟩]
def g27_104 : List CertN := [⟨10000, [(Pp 4086 0), (.cls 16 8)], odL87, [10001, 10000, 10379, 10328, 10310, 10294, 10280, 10262], (Pp 10000 0), odY70⟩]
def g27_105 : List CertN := [⟨10000, [(Pp 4086 0), (.cls 16 9)], odL87, [10001, 10000, 10455, 10404, 10386, 10370, 10356, 10338], (Pp 10000 0), odY70⟩]
def g27_106 : List CertN := [⟨10000, [(Pp 4086 0), (.cls 16 10)], odL87, [10001, 10000, 10516, 10465, 10437], (Pp 10000 0), odY71⟩]
def g27_107 : List CertN := [⟨10000, [(Pp 4086 0), (.cls 16 11)], odL87, [10001, 10000, 10592, 10541, 10513], (Pp 10000 0), odY71⟩]
def g27_108 : List CertN := [⟨10000, [(Pp 4086 0), (.cls 16 12)], odL87, [10001, 10000, 10523, 10472, 10454, 10438, 10424, 10406], (Pp 10000 0), odY70⟩]
def g27_109 : List CertN := [⟨10000, [(Pp 4086 0), (.cls 16 13)], odL87, [10001, 10000, 10599, 10548, 10530, 10514, 10500, 10482], (Pp 10000 0), odY70⟩]
def g27_110 : List CertN := [⟨10000, [(Pp 4086 0), (.cls 16 14)], odL87, [10001, 10000, 10620, 10569, 10541], (Pp 10000 0), odY71⟩]
def g27_111 : List CertN := [⟨10000, [(Pp 4086 0), (.cls 16 15)], odL87, [10001, 10000, 10696, 10645, 10617], (Pp 10000 0), odY71⟩]
def g27_112 : List CertN := [⟨10000, [(Pp 4090 0), (.cls 16 0)], odL88, [10001, 10000, 10004, 10011, 10049, 10028, 10040, 10036, 10014, 10022], (Pp 10000 0), odY72⟩]
def g27_113 : List CertN := [⟨10000, [(Pp 4090 0), (.cls 16 1)], odL88, [10001, 10000, 10004, 10011, 10049, 10028, 10040, 10036, 10014, 10022], (Pp 10000 0), odY72⟩]
def g27_114 : List CertN := [⟨10000, [(Pp 4090 0), (.cls 16 2)], odL88, [10001, 10000, 10439, 10011, 10049, 10365, 10304], (Pp 10000 0), odY73⟩]
def g27_115 : List CertN := [⟨10000, [(Pp 4090 0), (.cls 16 3)], odL88, [10001, 10000, 10521, 10011, 10049, 10447, 10386], (Pp 10000 0), odY73⟩]
def g27_116 : List CertN := [⟨10000, [(Pp 4090 0), (.cls 16 4)], odL88, [10001, 10000, 10404, 10011, 10049, 10346, 10328, 10312, 10298, 10280], (Pp 10000 0), odY72⟩]
def g27_117 : List CertN := [⟨10000, [(Pp 4090 0), (.cls 16 5)], odL88, [10001, 10000, 10486, 10011, 10049, 10428, 10410, 10394, 10380, 10362], (Pp 10000 0), odY72⟩]
def g27_118 : List CertN := [⟨10000, [(Pp 4090 0), (.cls 16 6)], odL88, [10001, 10000, 10551, 10011, 10049, 10493, 10465], (Pp 10000 0), odY73⟩]
def g27_119 : List CertN := [⟨10000, [(Pp 4090 0), (.cls 16 7)], odL88, [10001, 10000, 10633, 10011, 10049, 10575, 10547], (Pp 10000 0), odY73⟩]
def g27_120 : List CertN := [⟨10000, [(Pp 4090 0), (.cls 16 8)], odL88, [10001, 10000, 10407, 10011, 10049, 10349, 10331, 10315, 10301, 10283], (Pp 10000 0), odY72⟩]
def g27_121 : List CertN := [⟨10000, [(Pp 4090 0), (.cls 16 9)], odL88, [10001, 10000, 10489, 10011, 10049, 10431, 10413, 10397, 10383, 10365], (Pp 10000 0), odY72⟩]
def g27_122 : List CertN := [⟨10000, [(Pp 4090 0), (.cls 16 10)], odL88, [10001, 10000, 10554, 10011, 10049, 10496, 10468], (Pp 10000 0), odY73⟩]
def g27_123 : List CertN := [⟨10000, [(Pp 4090 0), (.cls 16 11)], odL88, [10001, 10000, 10636, 10011, 10049, 10578, 10550], (Pp 10000 0), odY73⟩]
def g27_124 : List CertN := [⟨10000, [(Pp 4090 0), (.cls 16 12)], odL88, [10001, 10000, 10559, 10011, 10049, 10501, 10483, 10467, 10453, 10435], (Pp 10000 0), odY72⟩]
def g27_125 : List CertN := [⟨10000, [(Pp 4090 0), (.cls 16 13)], odL88, [10001, 10000, 10641, 10011, 10049, 10583, 10565, 10549, 10535, 10517], (Pp 10000 0), odY72⟩]
def g27_126 : List CertN := [⟨10000, [(Pp 4090 0), (.cls 16 14)], odL88, [10001, 10000, 10666, 10011, 10049, 10608, 10580], (Pp 10000 0), odY73⟩]
def g27_127 : List CertN := [⟨10000, [(Pp 4090 0), (.cls 16 15)], odL88, [10001, 10000, 10748, 10011, 10049, 10690, 10662], (Pp 10000 0), odY73⟩]
def g27_128 : List CertN := [⟨10000, [(Pp 4088 0), (.cls 16 0)], odL89, [10001, 10000, 10004, 10011, 10049, 10028, 10040, 10036, 10014, 10022], (Pp 10000 0), odY74⟩]
def g27_129 : List CertN := [⟨10000, [(Pp 4088 0), (.cls 16 1)], odL89, [10001, 10000, 10004, 10011, 10049, 10028, 10040, 10036, 10014, 10022], (Pp 10000 0), odY74⟩]
def g27_130 : List CertN := [⟨10000, [(Pp 4088 0), (.cls 16 2)], odL89, [10001, 10000, 10439, 10011, 10049, 10365, 10304], (Pp 10000 0), odY75⟩]
def g27_131 : List CertN := [⟨10000, [(Pp 4088 0), (.cls 16 3)], odL89, [10001, 10000, 10521, 10011, 10049, 10447, 10386], (Pp 10000 0), odY75⟩]
def g27_132 : List CertN := [⟨10000, [(Pp 4088 0), (.cls 16 4)], odL89, [10001, 10000, 10404, 10011, 10049, 10346, 10328, 10312, 10298, 10280], (Pp 10000 0), odY74⟩]
def g27_133 : List CertN := [⟨10000, [(Pp 4088 0), (.cls 16 5)], odL89, [10001, 10000, 10486, 10011, 10049, 10428, 10410, 10394, 10380, 10362], (Pp 10000 0), odY74⟩]
def g27_134 : List CertN := [⟨10000, [(Pp 4088 0), (.cls 16 6)], odL89, [10001, 10000, 10551, 10011, 10049, 10493, 10465], (Pp 10000 0), odY75⟩]
def g27_135 : List CertN := [⟨10000, [(Pp 4088 0), (.cls 16 7)], odL89, [10001, 10000, 10633, 10011, 10049, 10575, 10547], (Pp 10000 0), odY75⟩]
def g27_136 : List CertN := [⟨10000, [(Pp 4088 0), (.cls 16 8)], odL89, [10001, 10000, 10407, 10011, 10049, 10349, 10331, 10315, 10301, 10283], (Pp 10000 0), odY74⟩]
def g27_137 : List CertN := [⟨10000, [(Pp 4088 0), (.cls 16 9)], odL89, [10001, 10000, 10489, 10011, 10049, 10431, 10413, 10397, 10383, 10365], (Pp 10000 0), odY74⟩]
def g27_138 : List CertN := [⟨10000, [(Pp 4088 0), (.cls 16 10)], odL89, [10001, 10000, 10554, 10011, 10049, 10496, 10468], (Pp 10000 0), odY75⟩]
def g27_139 : List CertN := [⟨10000, [(Pp 4088 0), (.cls 16 11)], odL89, [10001, 10000, 10636, 10011, 10049, 10578, 10550], (Pp 10000 0), odY75⟩]
def g27_140 : List CertN := [⟨10000, [(Pp 4088 0), (.cls 16 12)], odL89, [10001, 10000, 10559, 10011, 10049, 10501, 10483, 10467, 10453, 10435], (Pp 10000 0), odY74⟩]
def g27_141 : List CertN := [⟨10000, [(Pp 4088 0), (.cls 16 13)], odL89, [10001, 10000, 10641, 10011, 10049, 10583, 10565, 10549, 10535, 10517], (Pp 10000 0), odY74⟩]
def g27_142 : List CertN := [⟨10000, [(Pp 4088 0), (.cls 16 14)], odL89, [10001, 10000, 10666, 10011, 10049, 10608, 10580], (Pp 10000 0), odY75⟩]
def g27_143 : List CertN := [⟨10000, [(Pp 4088 0), (.cls 16 15)], odL89, [10001, 10000, 10748, 10011, 10049, 10690, 10662], (Pp 10000 0), odY75⟩]
def g27_144 : List CertN := [⟨10000, [(Pp 4102 0), (.cls 16 0)], odY19, [10001, 10000, 10004, 10055, 10014, 10031, 10043, 10039, 10017, 10025], (Pp 10000 0), odY76⟩]
def g27_145 : List CertN := [⟨10000, [(Pp 4102 0), (.cls 16 1)], odY19, [10001, 10000, 10004, 10055, 10014, 10031, 10043, 10039, 10017, 10025], (Pp 10000 0), odY76⟩]
def g27_146 : List CertN := [⟨10000, [(Pp 4102 0), (.cls 16 2)], odY19, [10001, 10000, 10507, 10055, 10014, 10406, 10345], (Pp 10000 0), odY77⟩]
def g27_147 : List CertN := [⟨10000, [(Pp 4102 0), (.cls 16 3)], odY19, [10001, 10000, 10601, 10055, 10014, 10500, 10439], (Pp 10000 0), odY77⟩]
def g27_148 : List CertN := [⟨10000, [(Pp 4102 0), (.cls 16 4)], odY19, [10001, 10000, 10466, 10055, 10014, 10387, 10369, 10353, 10339, 10321], (Pp 10000 0), odY76⟩]
def g27_149 : List CertN := [⟨10000, [(Pp 4102 0), (.cls 16 5)], odY19, [10001, 10000, 10560, 10055, 10014, 10481, 10463, 10447, 10433, 10415], (Pp 10000 0), odY76⟩]
def g27_150 : List CertN := [⟨10000, [(Pp 4102 0), (.cls 16 6)], odY19, [10001, 10000, 10643, 10055, 10014, 10564, 10536], (Pp 10000 0), odY77⟩]
def g27_151 : List CertN := [⟨10000, [(Pp 4102 0), (.cls 16 7)], odY19, [10001, 10000, 10737, 10055, 10014, 10658, 10630], (Pp 10000 0), odY77⟩]
def g27_152 : List CertN := [⟨10000, [(Pp 4102 0), (.cls 16 8)], odY19, [10001, 10000, 10469, 10055, 10014, 10390, 10372, 10356, 10342, 10324], (Pp 10000 0), odY76⟩]
def g27_153 : List CertN := [⟨10000, [(Pp 4102 0), (.cls 16 9)], odY19, [10001, 10000, 10563, 10055, 10014, 10484, 10466, 10450, 10436, 10418], (Pp 10000 0), odY76⟩]
def g27_154 : List CertN := [⟨10000, [(Pp 4102 0), (.cls 16 10)], odY19, [10001, 10000, 10646, 10055, 10014, 10567, 10539], (Pp 10000 0), odY77⟩]
def g27_155 : List CertN := [⟨10000, [(Pp 4102 0), (.cls 16 11)], odY19, [10001, 10000, 10740, 10055, 10014, 10661, 10633], (Pp 10000 0), odY77⟩]
def g27_156 : List CertN := [⟨10000, [(Pp 4102 0), (.cls 16 12)], odY19, [10001, 10000, 10645, 10055, 10014, 10566, 10548, 10532, 10518, 10500], (Pp 10000 0), odY76⟩]
def g27_157 : List CertN := [⟨10000, [(Pp 4102 0), (.cls 16 13)], odY19, [10001, 10000, 10739, 10055, 10014, 10660, 10642, 10626, 10612, 10594], (Pp 10000 0), odY76⟩]
def g27_158 : List CertN := [⟨10000, [(Pp 4102 0), (.cls 16 14)], odY19, [10001, 10000, 10782, 10055, 10014, 10703, 10675], (Pp 10000 0), odY77⟩]
def g27_159 : List CertN := [⟨10000, [(Pp 4102 0), (.cls 16 15)], odY19, [10001, 10000, 10876, 10055, 10014, 10797, 10769], (Pp 10000 0), odY77⟩]
def g27_160 : List CertN := [⟨10000, [(Pp 4102 0), (.cls 16 0)], odY20, [10001, 10000, 10004, 10055, 10014, 10031, 10043, 10039, 10017, 10025], (Pp 10000 0), odY78⟩]
def g27_161 : List CertN := [⟨10000, [(Pp 4102 0), (.cls 16 1)], odY20, [10001, 10000, 10004, 10055, 10014, 10031, 10043, 10039, 10017, 10025], (Pp 10000 0), odY78⟩]
def g27_162 : List CertN := [⟨10000, [(Pp 4102 0), (.cls 16 2)], odY20, [10001, 10000, 10507, 10055, 10014, 10406, 10345], (Pp 10000 0), odY79⟩]
def g27_163 : List CertN := [⟨10000, [(Pp 4102 0), (.cls 16 3)], odY20, [10001, 10000, 10601, 10055, 10014, 10500, 10439], (Pp 10000 0), odY79⟩]
def g27_164 : List CertN := [⟨10000, [(Pp 4102 0), (.cls 16 4)], odY20, [10001, 10000, 10466, 10055, 10014, 10387, 10369, 10353, 10339, 10321], (Pp 10000 0), odY78⟩]
def g27_165 : List CertN := [⟨10000, [(Pp 4102 0), (.cls 16 5)], odY20, [10001, 10000, 10560, 10055, 10014, 10481, 10463, 10447, 10433, 10415], (Pp 10000 0), odY78⟩]
def g27_166 : List CertN := [⟨10000, [(Pp 4102 0), (.cls 16 6)], odY20, [10001, 10000, 10643, 10055, 10014, 10564, 10536], (Pp 10000 0), odY79⟩]
def g27_167 : List CertN := [⟨10000, [(Pp 4102 0), (.cls 16 7)], odY20, [10001, 10000, 10737, 10055, 10014, 10658, 10630], (Pp 10000 0), odY79⟩]
def g27_168 : List CertN := [⟨10000, [(Pp 4102 0), (.cls 16 8)], odY20, [10001, 10000, 10469, 10055, 10014, 10390, 10372, 10356, 10342, 10324], (Pp 10000 0), odY78⟩]
def g27_169 : List CertN := [⟨10000, [(Pp 4102 0), (.cls 16 9)], odY20, [10001, 10000, 10563, 10055, 10014, 10484, 10466, 10450, 10436, 10418], (Pp 10000 0), odY78⟩]
def g27_170 : List CertN := [⟨10000, [(Pp 4102 0), (.cls 16 10)], odY20, [10001, 10000, 10646, 10055, 10014, 10567, 10539], (Pp 10000 0), odY79⟩]
def g27_171 : List CertN := [⟨10000, [(Pp 4102 0), (.cls 16 11)], odY20, [10001, 10000, 10740, 10055, 10014, 10661, 10633], (Pp 10000 0), odY79⟩]
def g27_172 : List CertN := [⟨10000, [(Pp 4102 0), (.cls 16 12)], odY20, [10001, 10000, 10645, 10055, 10014, 10566, 10548, 10532, 10518, 10500], (Pp 10000 0), odY78⟩]
def g27_173 : List CertN := [⟨10000, [(Pp 4102 0), (.cls 16 13)], odY20, [10001, 10000, 10739, 10055, 10014, 10660, 10642, 10626, 10612, 10594], (Pp 10000 0), odY78⟩]
def g27_174 : List CertN := [⟨10000, [(Pp 4102 0), (.cls 16 14)], odY20, [10001, 10000, 10782, 10055, 10014, 10703, 10675], (Pp 10000 0), odY79⟩]
def g27_175 : List CertN := [⟨10000, [(Pp 4102 0), (.cls 16 15)], odY20, [10001, 10000, 10876, 10055, 10014, 10797, 10769], (Pp 10000 0), odY79⟩]
def g27_176 : List CertN := [⟨10000, [(Pp 4102 0), (.cls 16 0)], odY21, [10001, 10000, 10004, 10055, 10014, 10031, 10043, 10039, 10017, 10025], (Pp 10000 0), odY80⟩]
def g27_177 : List CertN := [⟨10000, [(Pp 4102 0), (.cls 16 1)], odY21, [10001, 10000, 10004, 10055, 10014, 10031, 10043, 10039, 10017, 10025], (Pp 10000 0), odY80⟩]
def g27_178 : List CertN := [⟨10000, [(Pp 4102 0), (.cls 16 2)], odY21, [10001, 10000, 10505, 10055, 10014, 10404, 10343], (Pp 10000 0), odY81⟩]
def g27_179 : List CertN := [⟨10000, [(Pp 4102 0), (.cls 16 3)], odY21, [10001, 10000, 10599, 10055, 10014, 10498, 10437], (Pp 10000 0), odY81⟩]
def g27_180 : List CertN := [⟨10000, [(Pp 4102 0), (.cls 16 4)], odY21, [10001, 10000, 10464, 10055, 10014, 10385, 10367, 10351, 10337, 10319], (Pp 10000 0), odY80⟩]
def g27_181 : List CertN := [⟨10000, [(Pp 4102 0), (.cls 16 5)], odY21, [10001, 10000, 10558, 10055, 10014, 10479, 10461, 10445, 10431, 10413], (Pp 10000 0), odY80⟩]
def g27_182 : List CertN := [⟨10000, [(Pp 4102 0), (.cls 16 6)], odY21, [10001, 10000, 10641, 10055, 10014, 10562, 10534], (Pp 10000 0), odY81⟩]
def g27_183 : List CertN := [⟨10000, [(Pp 4102 0), (.cls 16 7)], odY21, [10001, 10000, 10735, 10055, 10014, 10656, 10628], (Pp 10000 0), odY81⟩]
def g27_184 : List CertN := [⟨10000, [(Pp 4102 0), (.cls 16 8)], odY21, [10001, 10000, 10467, 10055, 10014, 10388, 10370, 10354, 10340, 10322], (Pp 10000 0), odY80⟩]
def g27_185 : List CertN := [⟨10000, [(Pp 4102 0), (.cls 16 9)], odY21, [10001, 10000, 10561, 10055, 10014, 10482, 10464, 10448, 10434, 10416], (Pp 10000 0), odY80⟩]
def g27_186 : List CertN := [⟨10000, [(Pp 4102 0), (.cls 16 10)], odY21, [10001, 10000, 10644, 10055, 10014, 10565, 10537], (Pp 10000 0), odY81⟩]
def g27_187 : List CertN := [⟨10000, [(Pp 4102 0), (.cls 16 11)], odY21, [10001, 10000, 10738, 10055, 10014, 10659, 10631], (Pp 10000 0), odY81⟩]
def g27_188 : List CertN := [⟨10000, [(Pp 4102 0), (.cls 16 12)], odY21, [10001, 10000, 10643, 10055, 10014, 10564, 10546, 10530, 10516, 10498], (Pp 10000 0), odY80⟩]
def g27_189 : List CertN := [⟨10000, [(Pp 4102 0), (.cls 16 13)], odY21, [10001, 10000, 10737, 10055, 10014, 10658, 10640, 10624, 10610, 10592], (Pp 10000 0), odY80⟩]
def g27_190 : List CertN := [⟨10000, [(Pp 4102 0), (.cls 16 14)], odY21, [10001, 10000, 10780, 10055, 10014, 10701, 10673], (Pp 10000 0), odY81⟩]
def g27_191 : List CertN := [⟨10000, [(Pp 4102 0), (.cls 16 15)], odY21, [10001, 10000, 10874, 10055, 10014, 10795, 10767], (Pp 10000 0), odY81⟩]
def g27_192 : List CertN := [⟨10000, [(Pp 4114 0), (.cls 16 0)], odL94, [10001, 10000, 10004, 10015, 10057, 10032, 10044, 10040, 10018, 10026], (Pp 10000 0), odY82⟩]
def g27_193 : List CertN := [⟨10000, [(Pp 4114 0), (.cls 16 1)], odL94, [10001, 10000, 10004, 10015, 10057, 10032, 10044, 10040, 10018, 10026], (Pp 10000 0), odY82⟩]
def g27_194 : List CertN := [⟨10000, [(Pp 4114 0), (.cls 16 2)], odL94, [10001, 10000, 10527, 10015, 10057, 10417, 10356], (Pp 10000 0), odY83⟩]
def g27_195 : List CertN := [⟨10000, [(Pp 4114 0), (.cls 16 3)], odL94, [10001, 10000, 10625, 10015, 10057, 10515, 10454], (Pp 10000 0), odY83⟩]
def g27_196 : List CertN := [⟨10000, [(Pp 4114 0), (.cls 16 4)], odL94, [10001, 10000, 10484, 10015, 10057, 10398, 10380, 10364, 10350, 10332], (Pp 10000 0), odY82⟩]
def g27_197 : List CertN := [⟨10000, [(Pp 4114 0), (.cls 16 5)], odL94, [10001, 10000, 10582, 10015, 10057, 10496, 10478, 10462, 10448, 10430], (Pp 10000 0), odY82⟩]
def g27_198 : List CertN := [⟨10000, [(Pp 4114 0), (.cls 16 6)], odL94, [10001, 10000, 10671, 10015, 10057, 10585, 10557], (Pp 10000 0), odY83⟩]
def g27_199 : List CertN := [⟨10000, [(Pp 4114 0), (.cls 16 7)], odL94, [10001, 10000, 10769, 10015, 10057, 10683, 10655], (Pp 10000 0), odY83⟩]
def g27_200 : List CertN := [⟨10000, [(Pp 4114 0), (.cls 16 8)], odL94, [10001, 10000, 10487, 10015, 10057, 10401, 10383, 10367, 10353, 10335], (Pp 10000 0), odY82⟩]
def g27_201 : List CertN := [⟨10000, [(Pp 4114 0), (.cls 16 9)], odL94, [10001, 10000, 10585, 10015, 10057, 10499, 10481, 10465, 10451, 10433], (Pp 10000 0), odY82⟩]
def g27_202 : List CertN := [⟨10000, [(Pp 4114 0), (.cls 16 10)], odL94, [10001, 10000, 10674, 10015, 10057, 10588, 10560], (Pp 10000 0), odY83⟩]
def g27_203 : List CertN := [⟨10000, [(Pp 4114 0), (.cls 16 11)], odL94, [10001, 10000, 10772, 10015, 10057, 10686, 10658], (Pp 10000 0), odY83⟩]
def g27_204 : List CertN := [⟨10000, [(Pp 4114 0), (.cls 16 12)], odL94, [10001, 10000, 10671, 10015, 10057, 10585, 10567, 10551, 10537, 10519], (Pp 10000 0), odY82⟩]
def g27_205 : List CertN := [⟨10000, [(Pp 4114 0), (.cls 16 13)], odL94, [10001, 10000, 10769, 10015, 10057, 10683, 10665, 10649, 10635, 10617], (Pp 10000 0), odY82⟩]
def g27_206 : List CertN := [⟨10000, [(Pp 4114 0), (.cls 16 14)], odL94, [10001, 10000, 10818, 10015, 10057, 10732, 10704], (Pp 10000 0), odY83⟩]
def g27_207 : List CertN := [⟨10000, [(Pp 4114 0), (.cls 16 15)], odL94, [10001, 10000, 10916, 10015, 10057, 10830, 10802], (Pp 10000 0), odY83⟩]
def g27_208 : List CertN := [⟨10000, [(Pp 4100 0), (.cls 16 0)], odL95, [10001, 10000, 10004, 10053, 10013, 10030, 10042, 10038, 10016, 10024], (Pp 10000 0), odY84⟩]
def g27_209 : List CertN := [⟨10000, [(Pp 4100 0), (.cls 16 1)], odL95, [10001, 10000, 10004, 10053, 10013, 10030, 10042, 10038, 10016, 10024], (Pp 10000 0), odY84⟩]
def g27_210 : List CertN := [⟨10000, [(Pp 4100 0), (.cls 16 2)], odL95, [10001, 10000, 10483, 10053, 10013, 10391, 10330], (Pp 10000 0), odY85⟩]
def g27_211 : List CertN := [⟨10000, [(Pp 4100 0), (.cls 16 3)], odL95, [10001, 10000, 10573, 10053, 10013, 10481, 10420], (Pp 10000 0), odY85⟩]
def g27_212 : List CertN := [⟨10000, [(Pp 4100 0), (.cls 16 4)], odL95, [10001, 10000, 10444, 10053, 10013, 10372, 10354, 10338, 10324, 10306], (Pp 10000 0), odY84⟩]
def g27_213 : List CertN := [⟨10000, [(Pp 4100 0), (.cls 16 5)], odL95, [10001, 10000, 10534, 10053, 10013, 10462, 10444, 10428, 10414, 10396], (Pp 10000 0), odY84⟩]
def g27_214 : List CertN := [⟨10000, [(Pp 4100 0), (.cls 16 6)], odL95, [10001, 10000, 10611, 10053, 10013, 10539, 10511], (Pp 10000 0), odY85⟩]
def g27_215 : List CertN := [⟨10000, [(Pp 4100 0), (.cls 16 7)], odL95, [10001, 10000, 10701, 10053, 10013, 10629, 10601], (Pp 10000 0), odY85⟩]
def g27_216 : List CertN := [⟨10000, [(Pp 4100 0), (.cls 16 8)], odL95, [10001, 10000, 10447, 10053, 10013, 10375, 10357, 10341, 10327, 10309], (Pp 10000 0), odY84⟩]
def g27_217 : List CertN := [⟨10000, [(Pp 4100 0), (.cls 16 9)], odL95, [10001, 10000, 10537, 10053, 10013, 10465, 10447, 10431, 10417, 10399], (Pp 10000 0), odY84⟩]
def g27_218 : List CertN := [⟨10000, [(Pp 4100 0), (.cls 16 10)], odL95, [10001, 10000, 10614, 10053, 10013, 10542, 10514], (Pp 10000 0), odY85⟩]
def g27_219 : List CertN := [⟨10000, [(Pp 4100 0), (.cls 16 11)], odL95, [10001, 10000, 10704, 10053, 10013, 10632, 10604], (Pp 10000 0), odY85⟩]
def g27_220 : List CertN := [⟨10000, [(Pp 4100 0), (.cls 16 12)], odL95, [10001, 10000, 10615, 10053, 10013, 10543, 10525, 10509, 10495, 10477], (Pp 10000 0), odY84⟩]
def g27_221 : List CertN := [⟨10000, [(Pp 4100 0), (.cls 16 13)], odL95, [10001, 10000, 10705, 10053, 10013, 10633, 10615, 10599, 10585, 10567], (Pp 10000 0), odY84⟩]
def g27_222 : List CertN := [⟨10000, [(Pp 4100 0), (.cls 16 14)], odL95, [10001, 10000, 10742, 10053, 10013, 10670, 10642], (Pp 10000 0), odY85⟩]
def g27_223 : List CertN := [⟨10000, [(Pp 4100 0), (.cls 16 15)], odL95, [10001, 10000, 10832, 10053, 10013, 10760, 10732], (Pp 10000 0), odY85⟩]
def l27 : List CertN := g27_0 ++ (g27_1 ++ (g27_2 ++ (g27_3 ++ (g27_4 ++ (g27_5 ++ (g27_6 ++ (g27_7 ++ (g27_8 ++ (g27_9 ++ (g27_10 ++ (g27_11 ++ (g27_12 ++ (g27_13 ++ (g27_14 ++ (g27_15 ++ (g27_16 ++ (g27_17 ++ (g27_18 ++ (g27_19 ++ (g27_20 ++ (g27_21 ++ (g27_22 ++ (g27_23 ++ (g27_24 ++ (g27_25 ++ (g27_26 ++ (g27_27 ++ (g27_28 ++ (g27_29 ++ (g27_30 ++ (g27_31 ++ (g27_32 ++ (g27_33 ++ (g27_34 ++ (g27_35 ++ (g27_36 ++ (g27_37 ++ (g27_38 ++ (g27_39 ++ (g27_40 ++ (g27_41 ++ (g27_42 ++ (g27_43 ++ (g27_44 ++ (g27_45 ++ (g27_46 ++ (g27_47 ++ (g27_48 ++ (g27_49 ++ (g27_50 ++ (g27_51 ++ (g27_52 ++ (g27_53 ++ (g27_54 ++ (g27_55 ++ (g27_56 ++ (g27_57 ++ (g27_58 ++ (g27_59 ++ (g27_60 ++ (g27_61 ++ (g27_62 ++ (g27_63 ++ (g27_64 ++ (g27_65 ++ (g27_66 ++ (g27_67 ++ (g27_68 ++ (g27_69 ++ (g27_70 ++ (g27_71 ++ (g27_72 ++ (g27_73 ++ (g27_74 ++ (g27_75 ++ (g27_76 ++ (g27_77 ++ (g27_78 ++ (g27_79 ++ (g27_80 ++ (g27_81 ++ (g27_82 ++ (g27_83 ++ (g27_84 ++ (g27_85 ++ (g27_86 ++ (g27_87 ++ (g27_88 ++ (g27_89 ++ (g27_90 ++ (g27_91 ++ (g27_92 ++ (g27_93 ++ (g27_94 ++ (g27_95 ++ (g27_96 ++ (g27_97 ++ (g27_98 ++ (g27_99 ++ (g27_100 ++ (g27_101 ++ (g27_102 ++ (g27_103 ++ (g27_104 ++ (g27_105 ++ (g27_106 ++ (g27_107 ++ (g27_108 ++ (g27_109 ++ (g27_110 ++ (g27_111 ++ (g27_112 ++ (g27_113 ++ (g27_114 ++ (g27_115 ++ (g27_116 ++ (g27_117 ++ (g27_118 ++ (g27_119 ++ (g27_120 ++ (g27_121 ++ (g27_122 ++ (g27_123 ++ (g27_124 ++ (g27_125 ++ (g27_126 ++ (g27_127 ++ (g27_128 ++ (g27_129 ++ (g27_130 ++ (g27_131 ++ (g27_132 ++ (g27_133 ++ (g27_134 ++ (g27_135 ++ (g27_136 ++ (g27_137 ++ (g27_138 ++ (g27_139 ++ (g27_140 ++ (g27_141 ++ (g27_142 ++ (g27_143 ++ (g27_144 ++ (g27_145 ++ (g27_146 ++ (g27_147 ++ (g27_148 ++ (g27_149 ++ (g27_150 ++ (g27_151 ++ (g27_152 ++ (g27_153 ++ (g27_154 ++ (g27_155 ++ (g27_156 ++ (g27_157 ++ (g27_158 ++ (g27_159 ++ (g27_160 ++ (g27_161 ++ (g27_162 ++ (g27_163 ++ (g27_164 ++ (g27_165 ++ (g27_166 ++ (g27_167 ++ (g27_168 ++ (g27_169 ++ (g27_170 ++ (g27_171 ++ (g27_172 ++ (g27_173 ++ (g27_174 ++ (g27_175 ++ (g27_176 ++ (g27_177 ++ (g27_178 ++ (g27_179 ++ (g27_180 ++ (g27_181 ++ (g27_182 ++ (g27_183 ++ (g27_184 ++ (g27_185 ++ (g27_186 ++ (g27_187 ++ (g27_188 ++ (g27_189 ++ (g27_190 ++ (g27_191 ++ (g27_192 ++ (g27_193 ++ (g27_194 ++ (g27_195 ++ (g27_196 ++ (g27_197 ++ (g27_198 ++ (g27_199 ++ (g27_200 ++ (g27_201 ++ (g27_202 ++ (g27_203 ++ (g27_204 ++ (g27_205 ++ (g27_206 ++ (g27_207 ++ (g27_208 ++ (g27_209 ++ (g27_210 ++ (g27_211 ++ (g27_212 ++ (g27_213 ++ (g27_214 ++ (g27_215 ++ (g27_216 ++ (g27_217 ++ (g27_218 ++ (g27_219 ++ (g27_220 ++ (g27_221 ++ (g27_222 ++ (g27_223)))))))))))))))))))))))))))))))))))))))))))))))))))))))))))))))))))))))))))))))))))))))))))))))))))))))))))))))))))))))))))))))))))))))))))))))))))))))))))))))))))))))))))))))))))))))))))))))))))))))))))))))))))))))))))))))
def g28_0 : List Cert := [⟨7000, [(Sl 270 0 1 1 3)], odL98, [], 7008, (Pp 7000 0), odY22⟩]
def g28_1 : List Cert := [⟨7000, [(Sl 271 0 1 1 3)], odL100, [], 7008, (Pp 7000 0), odY22⟩]
def l28 : List Cert := g28_0 ++ (g28_1)
def g29_0 : List Cert := [⟨8000, [(Sl 2282 0 1 1 2), odX445, (Pp 7000 0), odX444], odY23, [(7007, (Ce (Lf (Ii 0)) 1 false))], 8075, (.tuple [(Sn 8074 0 10 1), (Ii 12), (Ii 0)]), odY24⟩]
def g29_1 : List Cert := [⟨8000, [(Sl 2282 0 1 1 2), odX446, (Pp 7000 0), odX444], odY23, [(7007, (Ce (Lf (Ii 0)) 1 false))], 8075, (.tuple [(Sn 8074 0 10 1), (Ii 12), (Ii 0)]), odY24⟩]
def g29_2 : List Cert := [⟨8000, [(Sl 2282 0 1 1 2), odX446, (Pp 7000 0), odX444], odY25, [(7007, (Ce (Lf (Ii 0)) 1 false))], 8078, (.tuple [(Sn 8077 0 12 1), (Ii 13), (Ii 0)]), odY26⟩]
def g29_3 : List Cert := [⟨8000, [(Sl 2282 0 1 1 2), odX445, (Pp 7000 0), odX444], odY25, [(7007, (Ce (Lf (Ii 0)) 1 false))], 8078, (.tuple [(Sn 8077 0 12 1), (Ii 13), (Ii 0)]), odY26⟩]
def g29_4 : List Cert := [⟨8000, [(Sl 2314 0 1 1 2), odX445, (Pp 7000 0), odX444], odY27, [(7007, (Ce (Lf (Ii 0)) 1 false))], 8101, (.tuple [(Sn 8100 0 10 1), (Ii 12), (Ii 0)]), odY28⟩]
def g29_5 : List Cert := [⟨8000, [(Sl 2314 0 1 1 2), odX446, (Pp 7000 0), odX444], odY27, [(7007, (Ce (Lf (Ii 0)) 1 false))], 8101, (.tuple [(Sn 8100 0 10 1), (Ii 12), (Ii 0)]), odY28⟩]
def g29_6 : List Cert := [⟨8000, [(Sl 2298 0 1 1 2), odX446, (Pp 7000 0), odX444], odY29, [(7007, (Ce (Lf (Ii 0)) 1 false))], 8098, (.tuple [(Sn 8097 0 12 1), (Ii 13), (Ii 0)]), odY30⟩]
def g29_7 : List Cert := [⟨8000, [(Sl 2298 0 1 1 2), odX445, (Pp 7000 0), odX444], odY29, [(7007, (Ce (Lf (Ii 0)) 1 false))], 8098, (.tuple [(Sn 8097 0 12 1), (Ii 13), (Ii 0)]), odY30⟩]
def g29_8 : List Cert := [⟨8000, [(Sl 2314 0 1 1 2), odX445, (Pp 7000 0), odX444], odY31, [(7007, (Ce (Lf (Ii 0)) 1 false))], 8110, (.tuple [(Sn 8109 0 12 1), (Ii 13), (Ii 0)]), odY32⟩]
def g29_9 : List Cert := [⟨8000, [(Sl 2314 0 1 1 2), odX446, (Pp 7000 0), odX444], odY31, [(7007, (Ce (Lf (Ii 0)) 1 false))], 8110, (.tuple [(Sn 8109 0 12 1), (Ii 13), (Ii 0)]), odY32⟩]
def g29_10 : List Cert := [⟨8000, [(Sl 2372 0 1 1 2), odX446, (Pp 7000 0), odX444], odY33, [(7007, (Ce (Lf (Ii 0)) 1 false))], 8149, (.tuple [(Sn 8148 0 10 1), (Ii 14), (Ii 0)]), odY34⟩]
def g29_11 : List Cert := [⟨8000, [(Sl 2372 0 1 1 2), odX445, (Pp 7000 0), odX444], odY33, [(7007, (Ce (Lf (Ii 0)) 1 false))], 8149, (.tuple [(Sn 8148 0 10 1), (Ii 14), (Ii 0)]), odY34⟩]
def g29_12 : List Cert := [⟨8000, [(Sl 2282 0 1 1 2), odX445, (Pp 7000 0), odX444], (odL29 ++ (odL27 ++ (odL4 ++ (odL3 ++ odL99)))), [(7007, (Ce (Lf (Ii 0)) 1 false))], 8077, (.tuple [(Sn 8076 0 10 1), (Ii 12), (Ii 0)]), [(7007, (Ce (Lf (Ii 1)) 1 false)), (8076, odX213)]⟩]
def g29_13 : List Cert := [⟨8000, [(Sl 2282 0 1 1 2), odX446, (Pp 7000 0), odX444], (odL30 ++ (odL27 ++ (odL7 ++ (odL3 ++ odL99)))), [(7007, (Ce (Lf (Ii 0)) 1 false))], 8080, (.tuple [(Sn 8079 0 12 1), (Ii 13), (Ii 0)]), [(7007, (Ce (Lf (Ii 1)) 1 false)), (8079, odX191)]⟩]
def g29_14 : List Cert := [⟨8000, [(Sl 2314 0 1 1 2), odX446, (Pp 7000 0), odX444], odY35, [(7007, (Ce (Lf (Ii 0)) 1 false))], 8105, (.tuple [(Sn 8104 0 10 1), (Ii 12), (Ii 0)]), odY36⟩]
def g29_15 : List Cert := [⟨8000, [(Sl 2314 0 1 1 2), odX445, (Pp 7000 0), odX444], odY35, [(7007, (Ce (Lf (Ii 0)) 1 false))], 8105, (.tuple [(Sn 8104 0 10 1), (Ii 12), (Ii 0)]), odY36⟩]
def g29_16 : List Cert := [⟨8000, [(Sl 2298 0 1 1 2), odX445, (Pp 7000 0), odX444], (odL35 ++ (odL32 ++ (odL22 ++ (odL18 ++ odL99)))), [(7007, (Ce (Lf (Ii 0)) 1 false))], 8100, (.tuple [(Sn 8099 0 12 1), (Ii 13), (Ii 0)]), [(7007, (Ce (Lf (Ii 1)) 1 false)), (8099, odX191)]⟩]
def g29_17 : List Cert := [⟨8000, [(Sl 2298 0 1 1 2), odX446, (Pp 7000 0), odX444], (odL34 ++ (odL32 ++ (odL19 ++ (odL18 ++ odL99)))), [(7007, (Ce (Lf (Ii 0)) 1 false))], 8097, (.tuple [(Sn 8096 0 10 1), (Ii 12), (Ii 0)]), [(7007, (Ce (Lf (Ii 1)) 1 false)), (8096, odX213)]⟩]
def g29_18 : List Cert := [⟨8000, [(Sl 2340 0 1 1 2), odX445, (Pp 7000 0), odX444], odY37, [(7007, (Ce (Lf (Ii 0)) 1 false))], 8122, (.tuple [(Sn 8121 0 12 1), (Ii 15), (Ii 0)]), odY38⟩]
def g29_19 : List Cert := [⟨8000, [(Sl 2340 0 1 1 2), odX446, (Pp 7000 0), odX444], odY37, [(7007, (Ce (Lf (Ii 0)) 1 false))], 8122, (.tuple [(Sn 8121 0 12 1), (Ii 15), (Ii 0)]), odY38⟩]
def g29_20 : List Cert := [⟨8000, [(Sl 2340 0 1 1 2), odX446, (Pp 7000 0), odX444], odY39, [(7007, (Ce (Lf (Ii 0)) 1 false))], 8119, (.tuple [(Sn 8118 0 10 1), (Ii 14), (Ii 0)]), odY40⟩]
def g29_21 : List Cert := [⟨8000, [(Sl 2340 0 1 1 2), odX445, (Pp 7000 0), odX444], odY39, [(7007, (Ce (Lf (Ii 0)) 1 false))], 8119, (.tuple [(Sn 8118 0 10 1), (Ii 14), (Ii 0)]), odY40⟩]
def g29_22 : List Cert := [⟨8000, [(Sl 2340 0 1 1 2), odX445, (Pp 7000 0), odX444], odY41, [(7007, (Ce (Lf (Ii 0)) 1 false))], 8122, (.tuple [(Sn 8121 0 12 1), (Ii 15), (Ii 0)]), odY38⟩]
def g29_23 : List Cert := [⟨8000, [(Sl 2340 0 1 1 2), odX446, (Pp 7000 0), odX444], odY41, [(7007, (Ce (Lf (Ii 0)) 1 false))], 8122, (.tuple [(Sn 8121 0 12 1), (Ii 15), (Ii 0)]), odY38⟩]
def g29_24 : List Cert := [⟨8000, [(Sl 2366 0 1 1 2), odX446, (Pp 7000 0), odX444], odY42, [(7007, (Ce (Lf (Ii 0)) 1 false))], 8128, (.tuple [(Sn 8127 0 12 1), (Ii 17), (Ii 0)]), odL110⟩]
def g29_25 : List Cert := [⟨8000, [(Sl 2366 0 1 1 2), odX445, (Pp 7000 0), odX444], odY42, [(7007, (Ce (Lf (Ii 0)) 1 false))], 8128, (.tuple [(Sn 8127 0 12 1), (Ii 17), (Ii 0)]), odL110⟩]
def g29_26 : List Cert := [⟨8000, [(Sl 2324 0 1 1 2), odX445, (Pp 7000 0), odX444], odY43, [(7007, (Ce (Lf (Ii 0)) 1 false))], 8110, (.tuple [(Sn 8109 0 11 1), (Ii 15), (Ii 0)]), odY44⟩]
def g29_27 : List Cert := [⟨8000, [(Sl 2324 0 1 1 2), odX446, (Pp 7000 0), odX444], odY43, [(7007, (Ce (Lf (Ii 0)) 1 false))], 8110, (.tuple [(Sn 8109 0 11 1), (Ii 15), (Ii 0)]), odY44⟩]
def l29 : List Cert := g29_0 ++ (g29_1 ++ (g29_2 ++ (g29_3 ++ (g29_4 ++ (g29_5 ++ (g29_6 ++ (g29_7 ++ (g29_8 ++ (g29_9 ++ (g29_10 ++ (g29_11 ++ (g29_12 ++ (g29_13 ++ (g29_14 ++ (g29_15 ++ (g29_16 ++ (g29_17 ++ (g29_18 ++ (g29_19 ++ (g29_20 ++ (g29_21 ++ (g29_22 ++ (g29_23 ++ (g29_24 ++ (g29_25 ++ (g29_26 ++ (g29_27)))))))))))))))))))))))))))
def c118_0 : Cert := ⟨221, [(Pp 209 0)], [(207, (.map [])), (209, (Ce (Nd (Sn 215 0 1 1) (Nd .nilslice (Lf (.map 208)) Em) (Lf (.map 207))) 4)), (215, (Ce (Lf (.int .u64 (.ofNat 5))) 1 false))], [], 226, (Pp 224 0), []⟩
def c118_1 : Cert := ⟨11001, [(Pp 6015 0)], ([(6021, (Ce (Lf (.int .u64 (.ofNat 1))) 1 false))] ++ odL0), [], 11006, (Pp 11004 0), odL1⟩
def c118_2 : Cert := ⟨11001, [(Pp 6015 0)], ([(6021, (Ce (Lf (.int .u64 (.ofNat 0))) 1 false))] ++ odL0), [], 11006, (Pp 11004 0), odL1⟩
def l118 : List Cert := [c118_0, c118_1, c118_2]
end Go.Proofs.YtnjonnilpfenfaaGreatDoor.OptDead
