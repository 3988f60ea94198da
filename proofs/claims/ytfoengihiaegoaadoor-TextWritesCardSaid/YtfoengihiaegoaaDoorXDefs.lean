/- What the functions that are walked by hand compute, as plain Lean functions (no memory, no Go). -/
import Derived.Test.YtfoengihiaegoaaDoorP0
import Derived.Lib.ItoaNum
import Derived.Lib.ParseIntB
import Derived.Lib.Split
import Derived.Lib.Index
import Derived.Lib.Bytes
import Derived.Lib.Join
import Derived.Shelf.GgClosure.StringsIndexFunc
namespace Go.Proofs.YtfoengihiaegoaaDoor.P
open Go.RowKit Go.Proofs.YtfoengihiaegoaaDoorW.PrintWords
def txt (l : List UInt8) : ByteArray := ⟨l.toArray⟩
def chs (s : ByteArray) : List UInt8 := s.data.toList
def odd (r : Nat) : Bool := decide (r < 33) || decide (126 < r)
def isPlain (s : ByteArray) : Bool := decide (Lib.idxFunc odd true s < 0)
def text_plain.f (a0 : ByteArray) (a1 : Int) : Option (Bool) := some (if 1 ≤ a0.size then (if (a0.size : Int) ≤ a1 then isPlain a0 else false) else false)
def dec (n : Int) : List UInt8 := Lib.decDigits n.toNat
def u64ok (n : Int) : Bool := decide (0 ≤ n) && decide (n < 18446744073709551616)
def strconv_FormatUint.f (a0 : Int) (a1 : Int) : Option (ByteArray) := if (u64ok a0 && a1 == 10) = true then some (txt (dec a0)) else none
def strings_Join.f (l0 : List ByteArray) (a1 : ByteArray) : Option (ByteArray) :=
  if l0.length ≤ 140737488355328 ∧ (Lib.join (l0.map chs) (chs a1)).length ≤ 140737488355328 then some (txt (Lib.join (l0.map chs) (chs a1))) else none
def itemOk (x : S56) : Bool := decide (1 ≤ x.f0.size) && decide (x.f0.size ≤ 32) && decide (x.f1.size ≤ 512) && decide (0 ≤ x.f3) && decide (x.f3 ≤ 1099511627776)
def anyBadItem.f (l0 : List (S56)) (_a1 : Unit) : Option (Bool) := some (l0.any fun x => !itemOk x)
def sp : List UInt8 := [32]
def crlf : List UInt8 := [13, 10]
def rowWord (of : Int) : List UInt8 :=
  if of = 1 then [69, 78, 68] else if of = 6 ∨ of = 7 then [78, 85, 77, 66, 69, 82] else if of = 9 then [84, 79, 85, 67, 72, 69, 68] else if of = 10 then [68, 69, 76, 69, 84, 69, 68] else if of = 11 then [70, 76, 85, 83, 72, 69, 68] else [83, 84, 79, 82, 69, 68]
def resWord (k : Int) : List UInt8 :=
  if k = 2 then [78, 79, 84, 95, 70, 79, 85, 78, 68] else if k = 3 then [69, 88, 73, 83, 84, 83] else if k = 4 then [84, 79, 79, 95, 76, 65, 82, 71, 69] else if k = 5 then [78, 79, 95, 77, 69, 77, 79, 82, 89] else if k = 6 then [78, 79, 84, 95, 78, 85, 77, 66, 69, 82] else if k = 7 then [68, 69, 78, 73, 69, 68] else []
def cloakroomref15_word.f (a0 : Int) : Option (ByteArray) := if 0 ≤ a0 ∧ a0 < 8 then some (txt (resWord a0)) else none
def cloakroomref15_row.f (a0 : Int) : Option (ByteArray) := if 0 ≤ a0 ∧ a0 < 12 then some (if a0 = 0 then txt [] else txt (rowWord a0)) else none
def puts (kind : Int) : Bool := decide (2 ≤ kind) && decide (kind ≤ 5)
def keySz (k : ByteArray) : Bool := decide (1 ≤ k.size) && decide (k.size ≤ 32)
def noTwice : List ByteArray → List ByteArray → Bool
  | _, [] => true
  | seen, x :: r => !(seen.any fun y => decide (x = y)) && noTwice (seen ++ [x]) r
def keysOk (kind : Int) (keys : List ByteArray) : Bool :=
  if kind = 11 then keys.isEmpty else
  decide (1 ≤ keys.length) && decide (keys.length ≤ (if kind = 1 ∨ kind = 10 then 8 else 1)) && keys.all keySz && noTwice [] keys
def cmdOk (kind tenant : Int) (keys : List ByteArray) (value : ByteArray) (flags for_ unique by_ : Int) : Bool :=
  decide (1 ≤ kind) && decide (kind ≤ 11) && decide (0 ≤ tenant) && decide (tenant < 4) && keysOk kind keys && (decide (value.size ≤ 512) && (decide (value.size = 0) || puts kind || kind == 8)) &&
  (decide (0 ≤ for_) && decide (for_ ≤ 1099511627776) && (for_ == 0 || puts kind || kind == 9)) && (flags == 0 || puts kind) && (unique == 0 || kind == 5) && (by_ == 0 || kind == 6 || kind == 7)
def cmdName (k : Int) : List UInt8 :=
  if k = 1 then [103, 101, 116] else if k = 2 then [115, 101, 116] else if k = 3 then [97, 100, 100] else if k = 4 then [114, 101, 112, 108, 97, 99, 101] else if k = 5 then [99, 97, 115] else if k = 6 then [105, 110, 99, 114] else if k = 7 then [100, 101, 99, 114] else if k = 8 then [97, 112, 112, 101, 110, 100] else if k = 9 then [116, 111, 117, 99, 104] else if k = 10 then [100, 101, 108, 101, 116, 101] else [102, 108, 117, 115, 104]
def lineOf (kind : Int) (keys : List ByteArray) (value : ByteArray) (flags for_ unique by_ : Int) : List UInt8 :=
  cmdName kind ++ keys.flatMap (fun k => sp ++ chs k) ++ (if puts kind then sp ++ dec flags ++ sp ++ dec for_ else []) ++ (if puts kind || kind == 8 then sp ++ dec value.size else []) ++ (if kind = 5 then sp ++ dec unique else []) ++
  (if kind = 6 ∨ kind = 7 then sp ++ dec by_ else []) ++ (if kind = 9 then sp ++ dec for_ else []) ++ crlf ++ (if puts kind || kind == 8 then chs value ++ crlf else [])
def bareCmd (kind tenant : Int) (keys : List ByteArray) (value : ByteArray) (flags for_ unique by_ : Int) : Bool :=
  kind == 0 && tenant == 0 && keys.isEmpty && decide (value.size = 0) && flags == 0 && for_ == 0 && unique == 0 && by_ == 0
def reqFits (kind ckind ctenant : Int) (keys : List ByteArray) (value : ByteArray) (flags for_ unique by_ tenant : Int) (secret : ByteArray) (on close : Bool) : Bool :=
  !close && !(on && !(kind == 3)) && (kind == 2 || (tenant == 0 && decide (secret.size = 0))) && (kind == 1 || bareCmd ckind ctenant keys value flags for_ unique by_) &&
  (!(kind == 2) || (decide (0 ≤ tenant) && decide (tenant < 4) && decide (1 ≤ secret.size) && decide (secret.size ≤ 16) && isPlain secret))
def plainKey (k : ByteArray) : Bool := decide (1 ≤ k.size) && decide (k.size ≤ 32) && isPlain k
def anyOddKey.f (l0 : List ByteArray) (_a1 : Unit) : Option (Bool) := some (l0.any fun k => !plainKey k)
def writeIn (kind ckind ctenant : Int) (keys : List ByteArray) (value : ByteArray) (flags for_ unique by_ tenant : Int) (secret : ByteArray) (on : Bool) : List Int × Int :=
  if kind = 1 then
    if cmdOk ckind ctenant keys value flags for_ unique by_ = false then ([], 100)
    else if (ctenant == 0 && keys.all plainKey) = false then ([], 8)
    else (bytesOf (txt (lineOf ckind keys value flags for_ unique by_)), 0)
  else if kind = 2 then (bytesOf (txt ([117, 115, 101, 114] ++ sp ++ dec tenant ++ sp ++ chs secret ++ crlf)), 0)
  else if kind = 3 then (bytesOf (txt ([116, 114, 97, 99, 107] ++ sp ++ (if on then [111, 110] else [111, 102, 102]) ++ crlf)), 0)
  else if kind = 4 then (bytesOf (txt ([112, 105, 110, 103] ++ crlf)), 0)
  else (bytesOf (txt ([113, 117, 105, 116] ++ crlf)), 0)
def writeReq (kind ckind ctenant : Int) (keys : List ByteArray) (value : ByteArray) (flags for_ unique by_ tenant : Int) (secret : ByteArray) (on close : Bool) : List Int × Int :=
  if (decide (1 ≤ kind) && decide (kind ≤ 5) && reqFits kind ckind ctenant keys value flags for_ unique by_ tenant secret on close) = true then writeIn kind ckind ctenant keys value flags for_ unique by_ tenant secret on else ([], 8)
end Go.Proofs.YtfoengihiaegoaaDoor.P
