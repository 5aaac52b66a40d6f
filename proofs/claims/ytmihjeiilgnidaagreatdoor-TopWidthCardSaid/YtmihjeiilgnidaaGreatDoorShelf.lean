/-
  DERIVED: THE SHELF's CONTRACTS AT THIS DUMP, IN PLAIN WORDS (tools/lay-plain.mjs out of 'TryzShelf.lean', which tools/lay-shelf.mjs wrote): THE SAME DECLARATIONS UNDER THE SAME NAMES: 'import', 'namespace', 'open', 'def', 'theorem' AND NOTHING ELSE: no command of the shelf's: FOR A HAND-IN. Each laying: the table of numbers ('.._ren') and one theorem, a field a fact of the dump's own or the kernel's comparison; each contract: ONE APPLICATION.
-/
import Derived.Shelf.Strings.Search1
import Derived.Shelf.Strings.Search2
import Derived.Shelf.Strings.Search3
import Derived.Shelf.Strings.Fields
import Derived.Test.YtmihjeiilgnidaaGreatDoorProg
namespace Go.Proofs
open Go.Shelf
def Tryz.lays219_ren : Go.Shelf.Ren := ⟨fun | 219 => 241 | 217 => 325 | 225 => 326 | 224 => 327 | 267 => 328 | 266 => 395 | 314 => 396 | n => n, fun | 9 => 9 | 3 => 3 | 4 => 4 | 5 => 5 | 46 => 480 | 146 => 538 | 51 => 537 | n => n, fun | 1 => 0 | n => n⟩
theorem Tryz.lays219 : Go.Proofs.Lays.n219 Tryz.prog Tryz.lays219_ren := {
  mixed := by kernel_rfl
  f217 := Tryz.func325.trans (congrArg some (by kernel_rfl))
  f219 := Tryz.func241.trans (congrArg some (by kernel_rfl))
  f224 := Tryz.func327.trans (congrArg some (by kernel_rfl))
  f225 := Tryz.func326.trans (congrArg some (by kernel_rfl))
  f266 := Tryz.func395.trans (congrArg some (by kernel_rfl))
  f267 := Tryz.func328.trans (congrArg some (by kernel_rfl))
  f314 := Tryz.func396.trans (congrArg some (by kernel_rfl))
  t3 := Tryz.underlying3
  a3 := Tryz.isAgg3
  z3 := Tryz.sizeOf3
  v3 := Tryz.zeroValue3
  t4 := Tryz.underlying4
  a4 := Tryz.isAgg4
  z4 := Tryz.sizeOf4
  v4 := Tryz.zeroValue4
  t5 := Tryz.underlying5
  a5 := Tryz.isAgg5
  z5 := Tryz.sizeOf5
  v5 := Tryz.zeroValue5
  t9 := Tryz.underlying9
  a9 := Tryz.isAgg9
  z9 := Tryz.sizeOf9
  v9 := Tryz.zeroValue9
  t46 := Tryz.underlying480
  a46 := Tryz.isAgg480
  z46 := Tryz.sizeOf480
  v46 := Tryz.zeroValue480
  t51 := Tryz.underlying537
  a51 := Tryz.isAgg537
  z51 := Tryz.sizeOf537
  v51 := Tryz.zeroValue537
  t146 := Tryz.underlying538
  a146 := Tryz.isAgg538
  z146 := Tryz.sizeOf538
  v146 := Tryz.zeroValue538
  g1 := by kernel_rfl }
open Go.RowKit Go.Lib in
/-- internal/stringslite.Index (what strings.Index calls) AT A substr OF ONE BYTE c: IT RETURNS 'Lib.indexByte s c'; the world is as it was. (LAID: no walk: one application.) -/
theorem Tryz.stringslite_Index_one (s : ByteArray) (c : UInt8) (w : World) :
    Calls Tryz.prog 241 #[.string s, .string ⟨#[c]⟩] w fun e w' => e = .returned (.int .i64 (Lib.indexByte s.data.toList c)) ∧ w' = w := Any.stringslite_Index_one Tryz.lays219 s c w
open Go.RowKit Go.Lib in
/-- internal/stringslite.Index (what strings.Index calls) AT A substr OF WHATEVER LENGTH: IT RETURNS 'Lib.index s substr'; the world is as it was. 'm': what internal/bytealg.MaxLen holds: whatever. (LAID: no walk: one application.) -/
theorem Tryz.stringslite_Index (s sub : ByteArray) (m : Int) (w : World) (hs : s.size < 4294967281) (hm : w.cell? ⟨0, 0, none⟩ = some (.int .i64 m)) :
    Calls Tryz.prog 241 #[.string s, .string sub] w fun e w' => e = .returned (.int .i64 (Lib.index s.data.toList sub.data.toList)) ∧ w' = w := Any.stringslite_Index Tryz.lays219 s sub m w hs hm
def Tryz.lays157_ren : Go.Shelf.Ren := ⟨fun | 157 => 390 | 229 => 434 | 199 => 435 | 261 => 453 | 311 => 458 | 312 => 459 | n => n, fun | 9 => 9 | 31 => 24 | 3 => 3 | 5 => 5 | 4 => 4 | 119 => 572 | 0 => 0 | 40 => 574 | 152 => 590 | 21 => 21 | 154 => 592 | 51 => 537 | 141 => 594 | 196 => 602 | 193 => 599 | 198 => 604 | 49 => 584 | 194 => 600 | 201 => 607 | 226 => 609 | 46 => 480 | 227 => 610 | n => n, fun | 0 => 2 | 6 => 5 | n => n⟩
theorem Tryz.lays157 : Go.Proofs.Lays.n157 Tryz.prog Tryz.lays157_ren := {
  mixed := by kernel_rfl
  f157 := Tryz.func390.trans (congrArg some (by kernel_rfl))
  f199 := Tryz.func435.trans (congrArg some (by kernel_rfl))
  f229 := Tryz.func434.trans (congrArg some (by kernel_rfl))
  f261 := Tryz.func453.trans (congrArg some (by kernel_rfl))
  f311 := Tryz.func458.trans (congrArg some (by kernel_rfl))
  f312 := Tryz.func459.trans (congrArg some (by kernel_rfl))
  t0 := Tryz.underlying0
  a0 := Tryz.isAgg0
  z0 := Tryz.sizeOf0
  v0 := Tryz.zeroValue0
  t3 := Tryz.underlying3
  a3 := Tryz.isAgg3
  z3 := Tryz.sizeOf3
  v3 := Tryz.zeroValue3
  t4 := Tryz.underlying4
  a4 := Tryz.isAgg4
  z4 := Tryz.sizeOf4
  v4 := Tryz.zeroValue4
  t5 := Tryz.underlying5
  a5 := Tryz.isAgg5
  z5 := Tryz.sizeOf5
  v5 := Tryz.zeroValue5
  t9 := Tryz.underlying9
  a9 := Tryz.isAgg9
  z9 := Tryz.sizeOf9
  v9 := Tryz.zeroValue9
  t21 := Tryz.underlying21
  a21 := Tryz.isAgg21
  z21 := Tryz.sizeOf21
  v21 := Tryz.zeroValue21
  t31 := Tryz.underlying24
  a31 := Tryz.isAgg24
  z31 := Tryz.sizeOf24
  v31 := Tryz.zeroValue24
  t40 := Tryz.underlying574
  a40 := Tryz.isAgg574
  z40 := Tryz.sizeOf574
  v40 := Tryz.zeroValue574
  t46 := Tryz.underlying480
  a46 := Tryz.isAgg480
  z46 := Tryz.sizeOf480
  v46 := Tryz.zeroValue480
  t49 := Tryz.underlying584
  a49 := Tryz.isAgg584
  z49 := Tryz.sizeOf584
  v49 := Tryz.zeroValue584
  t51 := Tryz.underlying537
  a51 := Tryz.isAgg537
  z51 := Tryz.sizeOf537
  v51 := Tryz.zeroValue537
  t119 := Tryz.underlying572
  a119 := Tryz.isAgg572
  z119 := Tryz.sizeOf572
  t141 := Tryz.underlying594
  a141 := Tryz.isAgg594
  z141 := Tryz.sizeOf594
  v141 := Tryz.zeroValue594
  t152 := Tryz.underlying590
  a152 := Tryz.isAgg590
  z152 := Tryz.sizeOf590
  v152 := Tryz.zeroValue590
  t154 := Tryz.underlying592
  a154 := Tryz.isAgg592
  z154 := Tryz.sizeOf592
  v154 := Tryz.zeroValue592
  t193 := Tryz.underlying599
  a193 := Tryz.isAgg599
  z193 := Tryz.sizeOf599
  v193 := Tryz.zeroValue599
  t194 := Tryz.underlying600
  a194 := Tryz.isAgg600
  z194 := Tryz.sizeOf600
  v194 := Tryz.zeroValue600
  t196 := Tryz.underlying602
  a196 := Tryz.isAgg602
  z196 := Tryz.sizeOf602
  v196 := Tryz.zeroValue602
  t198 := Tryz.underlying604
  a198 := Tryz.isAgg604
  z198 := Tryz.sizeOf604
  v198 := Tryz.zeroValue604
  t201 := Tryz.underlying607
  a201 := Tryz.isAgg607
  z201 := Tryz.sizeOf607
  v201 := Tryz.zeroValue607
  t226 := Tryz.underlying609
  a226 := Tryz.isAgg609
  z226 := Tryz.sizeOf609
  v226 := Tryz.zeroValue609
  t227 := Tryz.underlying610
  a227 := Tryz.isAgg610
  z227 := Tryz.sizeOf610
  v227 := Tryz.zeroValue610
  g0 := by kernel_rfl
  g6 := by kernel_rfl }
open Go.RowKit Go.Lib in
/-- strings.Fields, the table by 'Lib.TabIs' (as strings.TrimSpace's contract). 'hg': the table's number, by its name: at a dump 'by kernel_rfl'. (LAID: no walk: one application.) -/
theorem Tryz.strings_Fields (s : ByteArray) (w : World) (hs : s.size < 4294967281) (hascii : ∀ (j : Nat) b, s.data.toList[j]? = some b → b.toNat < 128) (htab : Lib.TabIs Tryz.prog w "strings.asciiSpace" .u8 Lib.asciiSpaceTab) :
    Calls Tryz.prog 390 #[.string s] w fun e w' =>
      e = .returned (.slice (some ⟨w.heap.size, 0, none⟩) (Lib.fields s.data.toList).length (Lib.fields s.data.toList).length) ∧ w' = w.alloc (.cells ((Lib.fields s.data.toList).map fun l => Value.string ⟨l.toArray⟩).toArray 9) := Any.strings_Fields Tryz.lays157 (by kernel_rfl) (by kernel_rfl) s w hs hascii htab
end Go.Proofs
