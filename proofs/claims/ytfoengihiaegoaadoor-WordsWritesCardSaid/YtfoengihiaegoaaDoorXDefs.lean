/- What the functions that are walked by hand compute, as plain Lean functions (no memory, no Go). -/
import Derived.Test.YtfoengihiaegoaaDoorP0
import Derived.Lib.ItoaNum
import Derived.Lib.ParseIntB
import Derived.Lib.Split
import Derived.Lib.Index
import Derived.Lib.Bytes
import Derived.Lib.Join
import Derived.Shelf.GgClosure.StringsIndexFunc
namespace Go.Proofs.YtfoengihiaegoaaDoor.P
open Go.RowKit Go.Proofs.YtfoengihiaegoaaDoorW.PrintWords

/-- A text of bytes; a text's bytes. -/
def txt (l : List UInt8) : ByteArray := ⟨l.toArray⟩
def chs (s : ByteArray) : List UInt8 := s.data.toList
/-- A rune that is no byte from 33 to 126. -/
def odd (r : Nat) : Bool := decide (r < 33) || decide (126 < r)
def isPlain (s : ByteArray) : Bool := decide (Lib.idxFunc odd true s < 0)
def words_plain.f (a0 : ByteArray) : Option (Bool) := some (isPlain a0)
def text_plain.f (a0 : ByteArray) (a1 : Int) : Option (Bool) := some (if 1 ≤ a0.size then (if (a0.size : Int) ≤ a1 then isPlain a0 else false) else false)
/-- A number's text, up to 2^64. -/
def dec (n : Int) : List UInt8 := Lib.decDigits n.toNat
def u64ok (n : Int) : Bool := decide (0 ≤ n) && decide (n < 18446744073709551616)
def strconv_FormatUint.f (a0 : Int) (a1 : Int) : Option (ByteArray) := if (u64ok a0 && a1 == 10) = true then some (txt (dec a0)) else none
/-- item.Number. -/
def numOf (s : ByteArray) : Int × Bool :=
  if s.size < 1 ∨ 20 < s.size ∨ (bt s 0 = 48 ∧ 1 < s.size) then (0, false) else
  match Lib.parseUintB 64 s.data.toList with
  | .ok u => ((u : Int), true)
  | _ => (0, false)
def item_Number.f (a0 : ByteArray) : Option (Int × Bool) := some (numOf a0)
def strings_Join.f (l0 : List ByteArray) (a1 : ByteArray) : Option (ByteArray) :=
  if l0.length ≤ 140737488355328 ∧ (Lib.join (l0.map chs) (chs a1)).length ≤ 140737488355328 then some (txt (Lib.join (l0.map chs) (chs a1))) else none
def strings_Split.f (a0 : ByteArray) (a1 : ByteArray) : Option (List ByteArray) :=
  if a0.size < 4294967281 ∧ 1 ≤ a1.size then some (Lib.splitB a1 0 (Lib.countB a0 a1) a0) else none
def isByte (x : Int) : Bool := decide (0 ≤ x) && decide (x < 256)
def bytes_Index.f (l0 : List Int) (l1 : List Int) : Option (Int) :=
  if l0.length < 4294967281 ∧ 2 ≤ l1.length ∧ l1.length ≤ 9223372036854775807 ∧ l0.all isByte = true ∧ l1.all isByte = true then some (Lib.index (Lib.bytesOf l0) (Lib.bytesOf l1)) else none

/-! ### answers -/
def itemOk (x : S56) : Bool := decide (1 ≤ x.f0.size) && decide (x.f0.size ≤ 32) && decide (x.f1.size ≤ 512) && decide (0 ≤ x.f3) && decide (x.f3 ≤ 1099511627776)
def cnt (kind : Int) : Bool := kind == 6 || kind == 7 || kind == 10
/-- May a result be one of a command of this kind? -/
def resOk (kind rk : Int) (items : List S56) (n : Int) : Bool :=
  decide (1 ≤ kind) && decide (kind ≤ 11) && decide (1 ≤ rk) && decide (rk ≤ 7) && (items.isEmpty || (rk == 1 && kind == 1)) && decide (items.length ≤ 8) && (n == 0 || (rk == 1 && cnt kind)) && !(kind == 10 && decide (8 < n)) && items.all itemOk
def anyBadItem.f (l0 : List (S56)) (_a1 : Unit) : Option (Bool) := some (l0.any fun x => !itemOk x)
def anyOddItem.f (l0 : List (S56)) (_a1 : Unit) : Option (Bool) := some (l0.any fun x => !isPlain x.f0)
/-- May an answer be? -/
def ansOk (kind of rk : Int) (items : List S56) (n : Int) (yes : Bool) (key : ByteArray) : Bool :=
  (if kind == 1 then resOk of rk items n else decide (1 < kind) && decide (kind ≤ 7) && of == 0 && rk == 0 && n == 0 && items.isEmpty) &&
  (if kind == 7 then decide (1 ≤ key.size) && decide (key.size ≤ 32) else decide (key.size = 0)) && !(yes && !(kind == 2) && !(kind == 3))
/-- The numbers are of their kinds. -/
def itemFits (x : S56) : Bool := u64ok x.f2 && u64ok x.f4
def sp : List UInt8 := [32]
def crlf : List UInt8 := [13, 10]
def itemLine (x : S56) : List UInt8 :=
  [86, 65, 76, 85, 69] ++ sp ++ chs x.f0 ++ sp ++ dec x.f2 ++ sp ++ dec x.f3 ++ sp ++ dec x.f4 ++ sp ++ dec x.f1.size ++ crlf ++ chs x.f1 ++ crlf
/-- The word of what a command did; of a result that is not done. -/
def rowWord (of : Int) : List UInt8 :=
  if of = 1 then [69, 78, 68] else if of = 6 ∨ of = 7 then [78, 85, 77, 66, 69, 82] else if of = 9 then [84, 79, 85, 67, 72, 69, 68] else if of = 10 then [68, 69, 76, 69, 84, 69, 68] else if of = 11 then [70, 76, 85, 83, 72, 69, 68] else [83, 84, 79, 82, 69, 68]
def resWord (k : Int) : List UInt8 :=
  if k = 2 then [78, 79, 84, 95, 70, 79, 85, 78, 68] else if k = 3 then [69, 88, 73, 83, 84, 83] else if k = 4 then [84, 79, 79, 95, 76, 65, 82, 71, 69] else if k = 5 then [78, 79, 95, 77, 69, 77, 79, 82, 89] else if k = 6 then [78, 79, 84, 95, 78, 85, 77, 66, 69, 82] else if k = 7 then [68, 69, 78, 73, 69, 68] else []
def doneLines (of : Int) (items : List S56) (n : Int) : List UInt8 :=
  items.flatMap itemLine ++ rowWord of ++ (if cnt of then sp ++ dec n else [])
def words_done.f (_a0_0 : Int) (a0_1 : Int) (_a0_2 : Int) (l0_3 : List (S56)) (a0_4 : Int) (_a0_5 : Bool) (_a0_6 : ByteArray) : Option (ByteArray) :=
  if (decide (1 ≤ a0_1) && decide (a0_1 ≤ 11) && decide (l0_3.length ≤ 8) && l0_3.all itemOk && l0_3.all itemFits && u64ok a0_4) = true then some (txt (doneLines a0_1 l0_3 a0_4)) else none
/-- An answer's lines, without the last end. -/
def lines (kind of rk : Int) (items : List S56) (n : Int) (yes : Bool) (key : ByteArray) : List UInt8 :=
  if kind = 1 then (if rk = 1 then doneLines of items n else resWord rk)
  else if kind = 2 then (if yes then [87, 69, 76, 67, 79, 77, 69] else [85, 78, 75, 78, 79, 87, 78])
  else if kind = 3 then (if yes then [84, 82, 65, 67, 75, 69, 68] else [85, 78, 84, 82, 65, 67, 75, 69, 68])
  else if kind = 4 then [80, 79, 78, 71] else if kind = 5 then [66, 89, 69] else if kind = 6 then [69, 82, 82, 79, 82] else [80, 85, 83, 72, 32] ++ chs key
def writeAns (kind of rk : Int) (items : List S56) (n : Int) (yes : Bool) (key : ByteArray) : List Int × Int :=
  if ansOk kind of rk items n yes key && isPlain key && items.all (fun x => isPlain x.f0) then (bytesOf (txt (lines kind of rk items n yes key ++ crlf)), 0) else ([], 8)
def words_Write.f (a0_0 : Int) (a0_1 : Int) (a0_2 : Int) (l0_3 : List (S56)) (a0_4 : Int) (a0_5 : Bool) (a0_6 : ByteArray) : Option (List Int × Int) :=
  if (l0_3.all itemFits && u64ok a0_4) = true then some (writeAns a0_0 a0_1 a0_2 l0_3 a0_4 a0_5 a0_6) else none
def cloakroomref15_word.f (a0 : Int) : Option (ByteArray) := if 0 ≤ a0 ∧ a0 < 8 then some (txt (resWord a0)) else none
def cloakroomref15_row.f (a0 : Int) : Option (ByteArray) := if 0 ≤ a0 ∧ a0 < 12 then some (if a0 = 0 then txt [] else txt (rowWord a0)) else none
/-- The answer of one line of words; the last: is there one? -/
def single (l : List (List UInt8)) (kind : Int) : (Int × Int × Int × Int × Bool × List UInt8) × Bool :=
  let w := l.headD []
  let known := decide (1 ≤ kind) && decide (kind ≤ 11)
  if l.length = 1 ∧ (w = resWord 2 ∨ w = resWord 3 ∨ w = resWord 4 ∨ w = resWord 5 ∨ w = resWord 6 ∨ w = resWord 7) then
    ((1, kind, (if w = resWord 2 then 2 else if w = resWord 3 then 3 else if w = resWord 4 then 4 else if w = resWord 5 then 5 else if w = resWord 6 then 6 else 7), 0, false, []), known)
  else if known = true ∧ w = rowWord kind ∧ ¬ (kind = 1) then
    if cnt kind = false then ((1, kind, 1, 0, false, []), decide (l.length = 1))
    else if l.length ≠ 2 then ((1, kind, 1, 0, false, []), false)
    else ((1, kind, 1, (numOf (txt (l.getD 1 []))).1, false, []), (numOf (txt (l.getD 1 []))).2 && (!(kind == 10) || decide ((numOf (txt (l.getD 1 []))).1 ≤ 8)))
  else if l.length = 2 ∧ w = [80, 85, 83, 72] then
    ((7, 0, 0, 0, false, l.getD 1 []), decide (1 ≤ (l.getD 1 []).length) && decide ((l.getD 1 []).length ≤ 32) && isPlain (txt (l.getD 1 [])))
  else if w = [87, 69, 76, 67, 79, 77, 69] then ((2, 0, 0, 0, true, []), decide (l.length = 1))
  else if w = [85, 78, 75, 78, 79, 87, 78] then ((2, 0, 0, 0, false, []), decide (l.length = 1))
  else if w = [84, 82, 65, 67, 75, 69, 68] then ((3, 0, 0, 0, true, []), decide (l.length = 1))
  else if w = [85, 78, 84, 82, 65, 67, 75, 69, 68] then ((3, 0, 0, 0, false, []), decide (l.length = 1))
  else if w = [80, 79, 78, 71] then ((4, 0, 0, 0, false, []), decide (l.length = 1))
  else if w = [66, 89, 69] then ((5, 0, 0, 0, false, []), decide (l.length = 1))
  else if w = [69, 82, 82, 79, 82] then ((6, 0, 0, 0, false, []), decide (l.length = 1))
  else ((0, 0, 0, 0, false, []), false)
def words_single.f (l0 : List ByteArray) (a1 : Int) : Option (Int × Int × Int × (List (S56)) × Int × Bool × ByteArray × Bool) :=
  if l0 = [] then none else
  let s := single (l0.map chs) a1
  some (s.1.1, s.1.2.1, s.1.2.2.1, [], s.1.2.2.2.1, s.1.2.2.2.2.1, txt s.1.2.2.2.2.2, s.2)

/-! ### commands and requests -/
def puts (kind : Int) : Bool := decide (2 ≤ kind) && decide (kind ≤ 5)
def keysOk (kind : Int) (keys : List ByteArray) : Bool :=
  if kind = 11 then keys.isEmpty else
  decide (1 ≤ keys.length) && decide (keys.length ≤ (if kind = 1 ∨ kind = 10 then 8 else 1)) && keys.all (fun k => decide (1 ≤ k.size) && decide (k.size ≤ 32)) && decide (keys.map chs).Nodup
/-- May a command be? -/
def cmdOk (kind tenant : Int) (keys : List ByteArray) (value : ByteArray) (flags for_ unique by_ : Int) : Bool :=
  decide (1 ≤ kind) && decide (kind ≤ 11) && decide (0 ≤ tenant) && decide (tenant < 4) && keysOk kind keys && decide (value.size ≤ 512) && (decide (value.size = 0) || puts kind || kind == 8) &&
  decide (0 ≤ for_) && decide (for_ ≤ 1099511627776) && (for_ == 0 || puts kind || kind == 9) && (flags == 0 || puts kind) && (unique == 0 || kind == 5) && (by_ == 0 || kind == 6 || kind == 7)
def cmdName (k : Int) : List UInt8 :=
  if k = 1 then [103, 101, 116] else if k = 2 then [115, 101, 116] else if k = 3 then [97, 100, 100] else if k = 4 then [114, 101, 112, 108, 97, 99, 101] else if k = 5 then [99, 97, 115] else if k = 6 then [105, 110, 99, 114] else if k = 7 then [100, 101, 99, 114] else if k = 8 then [97, 112, 112, 101, 110, 100] else if k = 9 then [116, 111, 117, 99, 104] else if k = 10 then [100, 101, 108, 101, 116, 101] else [102, 108, 117, 115, 104]
/-- A command's lines. -/
def lineOf (kind : Int) (keys : List ByteArray) (value : ByteArray) (flags for_ unique by_ : Int) : List UInt8 :=
  cmdName kind ++ keys.flatMap (fun k => sp ++ chs k) ++ (if puts kind then sp ++ dec flags ++ sp ++ dec for_ else []) ++ (if puts kind || kind == 8 then sp ++ dec value.size else []) ++ (if kind = 5 then sp ++ dec unique else []) ++
  (if kind = 6 ∨ kind = 7 then sp ++ dec by_ else []) ++ (if kind = 9 then sp ++ dec for_ else []) ++ crlf ++ (if puts kind || kind == 8 then chs value ++ crlf else [])
def cloakroomref14_line.f (a0_0 : Int) (_a0_1 : Int) (l0_2 : List ByteArray) (a0_3 : ByteArray) (a0_4 : Int) (a0_5 : Int) (a0_6 : Int) (a0_7 : Int) : Option (ByteArray) :=
  if (decide (1 ≤ a0_0) && decide (a0_0 ≤ 11) && decide (l0_2.length ≤ 8) && l0_2.all (fun k => decide (k.size ≤ 200)) && decide (a0_3.size ≤ 2000) && u64ok a0_4 && u64ok a0_5 && u64ok a0_6 && u64ok a0_7) = true then
    some (txt (lineOf a0_0 l0_2 a0_3 a0_4 a0_5 a0_6 a0_7)) else none
def bareCmd (kind tenant : Int) (keys : List ByteArray) (value : ByteArray) (flags for_ unique by_ : Int) : Bool :=
  kind == 0 && tenant == 0 && keys.isEmpty && decide (value.size = 0) && flags == 0 && for_ == 0 && unique == 0 && by_ == 0
/-- May a request's fields beside a command be? -/
def reqFits (kind ckind ctenant : Int) (keys : List ByteArray) (value : ByteArray) (flags for_ unique by_ tenant : Int) (secret : ByteArray) (on close : Bool) : Bool :=
  !close && !(on && !(kind == 3)) && (kind == 2 || (tenant == 0 && decide (secret.size = 0))) && (kind == 1 || bareCmd ckind ctenant keys value flags for_ unique by_) &&
  (!(kind == 2) || (decide (0 ≤ tenant) && decide (tenant < 4) && decide (1 ≤ secret.size) && decide (secret.size ≤ 16) && isPlain secret))
def plainKey (k : ByteArray) : Bool := decide (1 ≤ k.size) && decide (k.size ≤ 32) && isPlain k
/-- A request's line, or the error. -/
def writeReq (kind ckind ctenant : Int) (keys : List ByteArray) (value : ByteArray) (flags for_ unique by_ tenant : Int) (secret : ByteArray) (on close : Bool) : List Int × Int :=
  if (decide (1 ≤ kind) && decide (kind ≤ 5) && reqFits kind ckind ctenant keys value flags for_ unique by_ tenant secret on close) = false then ([], 8)
  else if kind = 1 then
    if cmdOk ckind ctenant keys value flags for_ unique by_ = false then ([], 100)
    else if (ctenant == 0 && keys.all plainKey) = false then ([], 8)
    else (bytesOf (txt (lineOf ckind keys value flags for_ unique by_)), 0)
  else if kind = 2 then (bytesOf (txt ([117, 115, 101, 114] ++ sp ++ dec tenant ++ sp ++ chs secret ++ crlf)), 0)
  else if kind = 3 then (bytesOf (txt ([116, 114, 97, 99, 107] ++ sp ++ (if on then [111, 110] else [111, 102, 102]) ++ crlf)), 0)
  else if kind = 4 then (bytesOf (txt ([112, 105, 110, 103] ++ crlf)), 0)
  else (bytesOf (txt ([113, 117, 105, 116] ++ crlf)), 0)
def text_Write.f (a0_0 : Int) (a0_1 : Int) (a0_2 : Int) (l0_3 : List ByteArray) (a0_4 : ByteArray) (a0_5 : Int) (a0_6 : Int) (a0_7 : Int) (a0_8 : Int) (a0_9 : Int) (a0_10 : ByteArray) (a0_11 : Bool) (a0_12 : Bool) : Option (List Int × Int) :=
  if (u64ok a0_5 && u64ok a0_7 && u64ok a0_8) = true then some (writeReq a0_0 a0_1 a0_2 l0_3 a0_4 a0_5 a0_6 a0_7 a0_8 a0_9 a0_10 a0_11 a0_12) else none
end Go.Proofs.YtfoengihiaegoaaDoor.P
