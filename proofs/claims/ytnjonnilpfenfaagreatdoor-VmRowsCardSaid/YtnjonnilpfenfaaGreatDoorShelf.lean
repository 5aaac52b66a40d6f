/- Two contracts of the library at this program's numbers: a search in a text; a number's text. -/
import Derived.Shelf.Strconv.Itoa3
import Derived.Shelf.Strings.Search1
import Derived.Shelf.Strings.Search2
import Derived.Shelf.Strings.Search3
import Derived.Test.YtnjonnilpfenfaaGreatDoorProg
namespace Go.Proofs
open Go.Shelf
def Tryz.laysM246_ren : Go.Shelf.Ren := ⟨fun | 246 => 329 | 283 => 409 | 284 => 410 | 285 => 411 | 286 => 412 | 129 => 479 | 317 => 478 | 318 => 480 | 319 => 481 | 320 => 482 | 337 => 509 | 338 => 510 | n => n, fun | 2 => 2 | 3 => 3 | 9 => 9 | 4 => 4 | 171 => 562 | 0 => 0 | 53 => 145 | 37 => 49 | 5 => 5 | 173 => 565 | 212 => 620 | 51 => 616 | 20 => 20 | 213 => 621 | 46 => 575 | 232 => 652 | 233 => 653 | n => n, fun | 17 => 1 | 18 => 5 | 19 => 6 | n => n⟩
theorem Tryz.laysM246 : Go.Proofs.LaysM.n246 Tryz.prog Tryz.laysM246_ren := {
  mixed := by kernel_rfl
  f129 := Tryz.func479.trans (congrArg some (by kernel_rfl))
  f246 := Tryz.func329.trans (congrArg some (by kernel_rfl))
  f283 := Tryz.func409.trans (congrArg some (by kernel_rfl))
  f284 := Tryz.func410.trans (congrArg some (by kernel_rfl))
  f285 := Tryz.func411.trans (congrArg some (by kernel_rfl))
  f286 := Tryz.func412.trans (congrArg some (by kernel_rfl))
  f317 := Tryz.func478.trans (congrArg some (by kernel_rfl))
  f318 := Tryz.func480.trans (congrArg some (by kernel_rfl))
  f319 := Tryz.func481.trans (congrArg some (by kernel_rfl))
  f320 := Tryz.func482.trans (congrArg some (by kernel_rfl))
  f337 := Tryz.func509.trans (congrArg some (by kernel_rfl))
  f338 := Tryz.func510.trans (congrArg some (by kernel_rfl))
  t0 := Tryz.underlying0
  a0 := Tryz.isAgg0
  z0 := Tryz.sizeOf0
  v0 := Tryz.zeroValue0
  t2 := Tryz.underlying2
  a2 := Tryz.isAgg2
  z2 := Tryz.sizeOf2
  v2 := Tryz.zeroValue2
  t3 := Tryz.underlying3
  a3 := Tryz.isAgg3
  z3 := Tryz.sizeOf3
  v3 := Tryz.zeroValue3
  t4 := Tryz.underlying4
  a4 := Tryz.isAgg4
  z4 := Tryz.sizeOf4
  v4 := Tryz.zeroValue4
  t5 := Tryz.underlying5
  a5 := Tryz.isAgg5
  z5 := Tryz.sizeOf5
  v5 := Tryz.zeroValue5
  t9 := Tryz.underlying9
  a9 := Tryz.isAgg9
  z9 := Tryz.sizeOf9
  v9 := Tryz.zeroValue9
  t20 := Tryz.underlying20
  a20 := Tryz.isAgg20
  z20 := Tryz.sizeOf20
  v20 := Tryz.zeroValue20
  t37 := Tryz.underlying49
  a37 := Tryz.isAgg49
  z37 := Tryz.sizeOf49
  v37 := Tryz.zeroValue49
  t46 := Tryz.underlying575
  a46 := Tryz.isAgg575
  z46 := Tryz.sizeOf575
  v46 := Tryz.zeroValue575
  t51 := Tryz.underlying616
  a51 := Tryz.isAgg616
  z51 := Tryz.sizeOf616
  v51 := Tryz.zeroValue616
  t53 := Tryz.underlying145
  a53 := Tryz.isAgg145
  z53 := Tryz.sizeOf145
  v53 := Tryz.zeroValue145
  t171 := Tryz.underlying562
  a171 := Tryz.isAgg562
  z171 := Tryz.sizeOf562
  v171 := Tryz.zeroValue562
  t173 := Tryz.underlying565
  a173 := Tryz.isAgg565
  z173 := Tryz.sizeOf565
  v173 := Tryz.zeroValue565
  t212 := Tryz.underlying620
  a212 := Tryz.isAgg620
  z212 := Tryz.sizeOf620
  v212 := Tryz.zeroValue620
  t213 := Tryz.underlying621
  a213 := Tryz.isAgg621
  z213 := Tryz.sizeOf621
  t232 := Tryz.underlying652
  a232 := Tryz.isAgg652
  z232 := Tryz.sizeOf652
  v232 := Tryz.zeroValue652
  t233 := Tryz.underlying653
  a233 := Tryz.isAgg653
  z233 := Tryz.sizeOf653
  v233 := Tryz.zeroValue653
  g17 := by kernel_rfl
  g18 := by kernel_rfl
  g19 := by kernel_rfl
  i0 := by kernel_rfl
  i2 := by kernel_rfl
  i3 := by kernel_rfl
  i4 := by kernel_rfl
  i5 := by kernel_rfl
  i9 := by kernel_rfl
  i20 := by kernel_rfl
  i37 := by kernel_rfl
  i46 := by kernel_rfl
  i51 := by kernel_rfl
  i53 := by kernel_rfl
  i171 := by kernel_rfl
  i173 := by kernel_rfl
  i212 := by kernel_rfl
  i232 := by kernel_rfl
  i233 := by kernel_rfl
  m17 := by kernel_rfl
  m18 := by kernel_rfl
  m19 := by kernel_rfl }
open Go.RowKit Go.Sort Go.Lib in
/-- internal/strconv.FormatInt: "FormatInt returns the string representation of i in the given base": AT BASE 10: i's decimal numeral, for every int64. The world behind the call: the world before it, new blocks behind the heap, draws. (LAID: no walk: one application.) -/
theorem Tryz.internal_strconv_FormatInt_10 (n : Int) (h0 : -9223372036854775808 ≤ n) (h1 : n ≤ 9223372036854775807) (w : World) (htab : Lib.TabIs Tryz.prog w "internal/strconv.uint64pow10" .u64 Lib.pow10Tab) :
    Calls Tryz.prog 329 #[.int .i64 n, .int .i64 10] w fun e w' => e = .returned (.string ⟨(Lib.itoa n).toArray⟩) ∧ ∃ k os, w' = grow (w.drewN k) os := Any.internal_strconv_FormatInt_10 Tryz.laysM246 n h0 h1 w htab
def Tryz.lays219_ren : Go.Shelf.Ren := ⟨fun | 219 => 347 | 217 => 433 | 225 => 434 | 224 => 435 | 267 => 436 | 266 => 492 | 314 => 493 | n => n, fun | 9 => 9 | 3 => 3 | 4 => 4 | 5 => 5 | 46 => 575 | 146 => 629 | 51 => 616 | n => n, fun | 1 => 0 | n => n⟩
theorem Tryz.lays219 : Go.Proofs.Lays.n219 Tryz.prog Tryz.lays219_ren := {
  mixed := by kernel_rfl
  f217 := Tryz.func433.trans (congrArg some (by kernel_rfl))
  f219 := Tryz.func347.trans (congrArg some (by kernel_rfl))
  f224 := Tryz.func435.trans (congrArg some (by kernel_rfl))
  f225 := Tryz.func434.trans (congrArg some (by kernel_rfl))
  f266 := Tryz.func492.trans (congrArg some (by kernel_rfl))
  f267 := Tryz.func436.trans (congrArg some (by kernel_rfl))
  f314 := Tryz.func493.trans (congrArg some (by kernel_rfl))
  t3 := Tryz.underlying3
  a3 := Tryz.isAgg3
  z3 := Tryz.sizeOf3
  v3 := Tryz.zeroValue3
  t4 := Tryz.underlying4
  a4 := Tryz.isAgg4
  z4 := Tryz.sizeOf4
  v4 := Tryz.zeroValue4
  t5 := Tryz.underlying5
  a5 := Tryz.isAgg5
  z5 := Tryz.sizeOf5
  v5 := Tryz.zeroValue5
  t9 := Tryz.underlying9
  a9 := Tryz.isAgg9
  z9 := Tryz.sizeOf9
  v9 := Tryz.zeroValue9
  t46 := Tryz.underlying575
  a46 := Tryz.isAgg575
  z46 := Tryz.sizeOf575
  v46 := Tryz.zeroValue575
  t51 := Tryz.underlying616
  a51 := Tryz.isAgg616
  z51 := Tryz.sizeOf616
  v51 := Tryz.zeroValue616
  t146 := Tryz.underlying629
  a146 := Tryz.isAgg629
  z146 := Tryz.sizeOf629
  v146 := Tryz.zeroValue629
  g1 := by kernel_rfl }
open Go.RowKit Go.Lib in
/-- internal/stringslite.Index (what strings.Index calls) AT A substr OF WHATEVER LENGTH: IT RETURNS 'Lib.index s substr'; the world is as it was. 'm': what internal/bytealg.MaxLen holds: whatever. (LAID: no walk: one application.) -/
theorem Tryz.stringslite_Index (s sub : ByteArray) (m : Int) (w : World) (hs : s.size < 4294967281) (hm : w.cell? ⟨0, 0, none⟩ = some (.int .i64 m)) :
    Calls Tryz.prog 347 #[.string s, .string sub] w fun e w' => e = .returned (.int .i64 (Lib.index s.data.toList sub.data.toList)) ∧ w' = w := Any.stringslite_Index Tryz.lays219 s sub m w hs hm
end Go.Proofs
