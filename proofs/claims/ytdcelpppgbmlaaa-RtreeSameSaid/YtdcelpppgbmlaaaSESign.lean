/- The start word of the program as a list of signs: what stands in it is read from that list (the kernel's own reading of so long a string outgrows its memory). -/
import Derived.Test.YtdcelpppgbmlaaaRows
import Derived.WalkKit
namespace Go.Proofs.Ytdcelpppgbmlaaa
abbrev cutW : List Char := [Char.ofNat 99, Char.ofNat 117, Char.ofNat 116]
theorem make_of {P : Program} {r : List (List Char)} (h : behindMainWord (wordsSigns P.initOrder.toList) = cutW :: r) : P.make = some .cut := by
  unfold Program.make
  rw [h]
  rfl
theorem strip_cut (r : List (List Char)) : stripLifts liftWords (cutW :: r) = ([], cutW :: r) := by kernel_rfl
theorem liftsFinal_of {P : Program} {r : List (List Char)} (h : behindMainWord (wordsSigns P.initOrder.toList) = cutW :: r) : P.liftsFinal = false := by
  unfold Program.liftsFinal Program.headLifts
  rw [h, strip_cut]
  kernel_rfl
theorem mayEnter_of {P : Program} {r : List (List Char)} (h : behindMainWord (wordsSigns P.initOrder.toList) = cutW :: r)
    (h1 : P.laysLater = false) (h2 : P.bearsReflect = false) (h3 : P.doorFits [] = true) : P.mayEnter = true := by
  unfold Program.mayEnter
  rw [h]
  show ((_ : Bool) || _ || ((stripLifts liftWords (cutW :: r)).2.head? == some "cut".toList && _ && _ && _ && P.doorFits (stripLifts liftWords (cutW :: r)).1)) = true
  rw [strip_cut, h1, h2, h3]
  rw [Bool.or_eq_true]
  right
  kernel_rfl
def sign : List Char := [
  Char.ofNat 104, Char.ofNat 97, Char.ofNat 114, Char.ofNat 110, Char.ofNat 101, Char.ofNat 115, Char.ofNat 115, Char.ofNat 32, Char.ofNat 102, Char.ofNat 100,
  Char.ofNat 51, Char.ofNat 97, Char.ofNat 98, Char.ofNat 49, Char.ofNat 102, Char.ofNat 53, Char.ofNat 49, Char.ofNat 54, Char.ofNat 102, Char.ofNat 54,
  Char.ofNat 48, Char.ofNat 99, Char.ofNat 53, Char.ofNat 101, Char.ofNat 54, Char.ofNat 101, Char.ofNat 57, Char.ofNat 49, Char.ofNat 101, Char.ofNat 50,
  Char.ofNat 102, Char.ofNat 51, Char.ofNat 97, Char.ofNat 48, Char.ofNat 101, Char.ofNat 51, Char.ofNat 48, Char.ofNat 50, Char.ofNat 55, Char.ofNat 102,
  Char.ofNat 99, Char.ofNat 52, Char.ofNat 98, Char.ofNat 53, Char.ofNat 101, Char.ofNat 98, Char.ofNat 98, Char.ofNat 99, Char.ofNat 57, Char.ofNat 100,
  Char.ofNat 48, Char.ofNat 97, Char.ofNat 49, Char.ofNat 57, Char.ofNat 57, Char.ofNat 53, Char.ofNat 102, Char.ofNat 99, Char.ofNat 100, Char.ofNat 51,
  Char.ofNat 48, Char.ofNat 99, Char.ofNat 50, Char.ofNat 99, Char.ofNat 53, Char.ofNat 54, Char.ofNat 99, Char.ofNat 50, Char.ofNat 54, Char.ofNat 101,
  Char.ofNat 57, Char.ofNat 99, Char.ofNat 32, Char.ofNat 99, Char.ofNat 117, Char.ofNat 116, Char.ofNat 32, Char.ofNat 97, Char.ofNat 116, Char.ofNat 32,
  Char.ofNat 98, Char.ofNat 105, Char.ofNat 116, Char.ofNat 101, Char.ofNat 109, Char.ofNat 112, Char.ofNat 111, Char.ofNat 114, Char.ofNat 97, Char.ofNat 108,
  Char.ofNat 47, Char.ofNat 98, Char.ofNat 105, Char.ofNat 116, Char.ofNat 101, Char.ofNat 109, Char.ofNat 112, Char.ofNat 111, Char.ofNat 114, Char.ofNat 97,
  Char.ofNat 108, Char.ofNat 108, Char.ofNat 97, Char.ofNat 119, Char.ofNat 48, Char.ofNat 51, Char.ofNat 46, Char.ofNat 83, Char.ofNat 112, Char.ofNat 97,
  Char.ofNat 110, Char.ofNat 79, Char.ofNat 102, Char.ofNat 32, Char.ofNat 98, Char.ofNat 105, Char.ofNat 116, Char.ofNat 101, Char.ofNat 109, Char.ofNat 112,
  Char.ofNat 111, Char.ofNat 114, Char.ofNat 97, Char.ofNat 108, Char.ofNat 47, Char.ofNat 98, Char.ofNat 105, Char.ofNat 116, Char.ofNat 101, Char.ofNat 109,
  Char.ofNat 112, Char.ofNat 111, Char.ofNat 114, Char.ofNat 97, Char.ofNat 108, Char.ofNat 108, Char.ofNat 97, Char.ofNat 119, Char.ofNat 48, Char.ofNat 51,
  Char.ofNat 46, Char.ofNat 83, Char.ofNat 112, Char.ofNat 97, Char.ofNat 110, Char.ofNat 83, Char.ofNat 108, Char.ofNat 105, Char.ofNat 99, Char.ofNat 101,
  Char.ofNat 115, Char.ofNat 32, Char.ofNat 98, Char.ofNat 105, Char.ofNat 116, Char.ofNat 101, Char.ofNat 109, Char.ofNat 112, Char.ofNat 111, Char.ofNat 114,
  Char.ofNat 97, Char.ofNat 108, Char.ofNat 47, Char.ofNat 98, Char.ofNat 105, Char.ofNat 116, Char.ofNat 101, Char.ofNat 109, Char.ofNat 112, Char.ofNat 111,
  Char.ofNat 114, Char.ofNat 97, Char.ofNat 108, Char.ofNat 108, Char.ofNat 97, Char.ofNat 119, Char.ofNat 48, Char.ofNat 51, Char.ofNat 46, Char.ofNat 83,
  Char.ofNat 112, Char.ofNat 97, Char.ofNat 110, Char.ofNat 76, Char.ofNat 101, Char.ofNat 110, Char.ofNat 103, Char.ofNat 116, Char.ofNat 104, Char.ofNat 115,
  Char.ofNat 32, Char.ofNat 98, Char.ofNat 105, Char.ofNat 116, Char.ofNat 101, Char.ofNat 109, Char.ofNat 112, Char.ofNat 111, Char.ofNat 114, Char.ofNat 97,
  Char.ofNat 108, Char.ofNat 47, Char.ofNat 98, Char.ofNat 105, Char.ofNat 116, Char.ofNat 101, Char.ofNat 109, Char.ofNat 112, Char.ofNat 111, Char.ofNat 114,
  Char.ofNat 97, Char.ofNat 108, Char.ofNat 108, Char.ofNat 97, Char.ofNat 119, Char.ofNat 48, Char.ofNat 51, Char.ofNat 46, Char.ofNat 83, Char.ofNat 112,
  Char.ofNat 97, Char.ofNat 110, Char.ofNat 67, Char.ofNat 111, Char.ofNat 109, Char.ofNat 98, Char.ofNat 105, Char.ofNat 110, Char.ofNat 101, Char.ofNat 115,
  Char.ofNat 32, Char.ofNat 98, Char.ofNat 105, Char.ofNat 116, Char.ofNat 101, Char.ofNat 109, Char.ofNat 112, Char.ofNat 111, Char.ofNat 114, Char.ofNat 97,
  Char.ofNat 108, Char.ofNat 47, Char.ofNat 98, Char.ofNat 105, Char.ofNat 116, Char.ofNat 101, Char.ofNat 109, Char.ofNat 112, Char.ofNat 111, Char.ofNat 114,
  Char.ofNat 97, Char.ofNat 108, Char.ofNat 108, Char.ofNat 97, Char.ofNat 119, Char.ofNat 48, Char.ofNat 51, Char.ofNat 46, Char.ofNat 83, Char.ofNat 112,
  Char.ofNat 97, Char.ofNat 110, Char.ofNat 65, Char.ofNat 108, Char.ofNat 103, Char.ofNat 101, Char.ofNat 98, Char.ofNat 114, Char.ofNat 97, Char.ofNat 32,
  Char.ofNat 98, Char.ofNat 105, Char.ofNat 116, Char.ofNat 101, Char.ofNat 109, Char.ofNat 112, Char.ofNat 111, Char.ofNat 114, Char.ofNat 97, Char.ofNat 108,
  Char.ofNat 47, Char.ofNat 98, Char.ofNat 105, Char.ofNat 116, Char.ofNat 101, Char.ofNat 109, Char.ofNat 112, Char.ofNat 111, Char.ofNat 114, Char.ofNat 97,
  Char.ofNat 108, Char.ofNat 108, Char.ofNat 97, Char.ofNat 119, Char.ofNat 48, Char.ofNat 51, Char.ofNat 46, Char.ofNat 83, Char.ofNat 112, Char.ofNat 97,
  Char.ofNat 110, Char.ofNat 80, Char.ofNat 111, Char.ofNat 105, Char.ofNat 110, Char.ofNat 116, Char.ofNat 115, Char.ofNat 32, Char.ofNat 98, Char.ofNat 105,
  Char.ofNat 116, Char.ofNat 101, Char.ofNat 109, Char.ofNat 112, Char.ofNat 111, Char.ofNat 114, Char.ofNat 97, Char.ofNat 108, Char.ofNat 47, Char.ofNat 98,
  Char.ofNat 105, Char.ofNat 116, Char.ofNat 101, Char.ofNat 109, Char.ofNat 112, Char.ofNat 111, Char.ofNat 114, Char.ofNat 97, Char.ofNat 108, Char.ofNat 116,
  Char.ofNat 111, Char.ofNat 112, Char.ofNat 46, Char.ofNat 84, Char.ofNat 111, Char.ofNat 112, Char.ofNat 73, Char.ofNat 110, Char.ofNat 100, Char.ofNat 101,
  Char.ofNat 120, Char.ofNat 101, Char.ofNat 115, Char.ofNat 32, Char.ofNat 98, Char.ofNat 105, Char.ofNat 116, Char.ofNat 101, Char.ofNat 109, Char.ofNat 112,
  Char.ofNat 111, Char.ofNat 114, Char.ofNat 97, Char.ofNat 108, Char.ofNat 47, Char.ofNat 98, Char.ofNat 105, Char.ofNat 116, Char.ofNat 101, Char.ofNat 109,
  Char.ofNat 112, Char.ofNat 111, Char.ofNat 114, Char.ofNat 97, Char.ofNat 108, Char.ofNat 108, Char.ofNat 97, Char.ofNat 119, Char.ofNat 48, Char.ofNat 51,
  Char.ofNat 46, Char.ofNat 83, Char.ofNat 112, Char.ofNat 97, Char.ofNat 110, Char.ofNat 84, Char.ofNat 101, Char.ofNat 108, Char.ofNat 108, Char.ofNat 115,
  Char.ofNat 32, Char.ofNat 98, Char.ofNat 105, Char.ofNat 116, Char.ofNat 101, Char.ofNat 109, Char.ofNat 112, Char.ofNat 111, Char.ofNat 114, Char.ofNat 97,
  Char.ofNat 108, Char.ofNat 47, Char.ofNat 98, Char.ofNat 105, Char.ofNat 116, Char.ofNat 101, Char.ofNat 109, Char.ofNat 112, Char.ofNat 111, Char.ofNat 114,
  Char.ofNat 97, Char.ofNat 108, Char.ofNat 108, Char.ofNat 97, Char.ofNat 119, Char.ofNat 48, Char.ofNat 53, Char.ofNat 46, Char.ofNat 82, Char.ofNat 101,
  Char.ofNat 103, Char.ofNat 105, Char.ofNat 111, Char.ofNat 110, Char.ofNat 67, Char.ofNat 111, Char.ofNat 109, Char.ofNat 98, Char.ofNat 105, Char.ofNat 110,
  Char.ofNat 101, Char.ofNat 115, Char.ofNat 32, Char.ofNat 98, Char.ofNat 105, Char.ofNat 116, Char.ofNat 101, Char.ofNat 109, Char.ofNat 112, Char.ofNat 111,
  Char.ofNat 114, Char.ofNat 97, Char.ofNat 108, Char.ofNat 47, Char.ofNat 98, Char.ofNat 105, Char.ofNat 116, Char.ofNat 101, Char.ofNat 109, Char.ofNat 112,
  Char.ofNat 111, Char.ofNat 114, Char.ofNat 97, Char.ofNat 108, Char.ofNat 108, Char.ofNat 97, Char.ofNat 119, Char.ofNat 48, Char.ofNat 53, Char.ofNat 46,
  Char.ofNat 82, Char.ofNat 101, Char.ofNat 103, Char.ofNat 105, Char.ofNat 111, Char.ofNat 110, Char.ofNat 65, Char.ofNat 108, Char.ofNat 103, Char.ofNat 101,
  Char.ofNat 98, Char.ofNat 114, Char.ofNat 97, Char.ofNat 32, Char.ofNat 98, Char.ofNat 105, Char.ofNat 116, Char.ofNat 101, Char.ofNat 109, Char.ofNat 112,
  Char.ofNat 111, Char.ofNat 114, Char.ofNat 97, Char.ofNat 108, Char.ofNat 47, Char.ofNat 98, Char.ofNat 105, Char.ofNat 116, Char.ofNat 101, Char.ofNat 109,
  Char.ofNat 112, Char.ofNat 111, Char.ofNat 114, Char.ofNat 97, Char.ofNat 108, Char.ofNat 108, Char.ofNat 97, Char.ofNat 119, Char.ofNat 48, Char.ofNat 53,
  Char.ofNat 46, Char.ofNat 82, Char.ofNat 101, Char.ofNat 103, Char.ofNat 105, Char.ofNat 111, Char.ofNat 110, Char.ofNat 83, Char.ofNat 108, Char.ofNat 105,
  Char.ofNat 99, Char.ofNat 101, Char.ofNat 115, Char.ofNat 32, Char.ofNat 98, Char.ofNat 105, Char.ofNat 116, Char.ofNat 101, Char.ofNat 109, Char.ofNat 112,
  Char.ofNat 111, Char.ofNat 114, Char.ofNat 97, Char.ofNat 108, Char.ofNat 47, Char.ofNat 98, Char.ofNat 105, Char.ofNat 116, Char.ofNat 101, Char.ofNat 109,
  Char.ofNat 112, Char.ofNat 111, Char.ofNat 114, Char.ofNat 97, Char.ofNat 108, Char.ofNat 108, Char.ofNat 97, Char.ofNat 119, Char.ofNat 48, Char.ofNat 53,
  Char.ofNat 46, Char.ofNat 82, Char.ofNat 101, Char.ofNat 103, Char.ofNat 105, Char.ofNat 111, Char.ofNat 110, Char.ofNat 65, Char.ofNat 112, Char.ofNat 97,
  Char.ofNat 114, Char.ofNat 116, Char.ofNat 32, Char.ofNat 98, Char.ofNat 105, Char.ofNat 116, Char.ofNat 101, Char.ofNat 109, Char.ofNat 112, Char.ofNat 111,
  Char.ofNat 114, Char.ofNat 97, Char.ofNat 108, Char.ofNat 47, Char.ofNat 98, Char.ofNat 105, Char.ofNat 116, Char.ofNat 101, Char.ofNat 109, Char.ofNat 112,
  Char.ofNat 111, Char.ofNat 114, Char.ofNat 97, Char.ofNat 108, Char.ofNat 108, Char.ofNat 97, Char.ofNat 119, Char.ofNat 48, Char.ofNat 53, Char.ofNat 46,
  Char.ofNat 82, Char.ofNat 101, Char.ofNat 103, Char.ofNat 105, Char.ofNat 111, Char.ofNat 110, Char.ofNat 79, Char.ofNat 102, Char.ofNat 32, Char.ofNat 98,
  Char.ofNat 105, Char.ofNat 116, Char.ofNat 101, Char.ofNat 109, Char.ofNat 112, Char.ofNat 111, Char.ofNat 114, Char.ofNat 97, Char.ofNat 108, Char.ofNat 47,
  Char.ofNat 98, Char.ofNat 105, Char.ofNat 116, Char.ofNat 101, Char.ofNat 109, Char.ofNat 112, Char.ofNat 111, Char.ofNat 114, Char.ofNat 97, Char.ofNat 108,
  Char.ofNat 108, Char.ofNat 97, Char.ofNat 119, Char.ofNat 48, Char.ofNat 53, Char.ofNat 46, Char.ofNat 82, Char.ofNat 101, Char.ofNat 103, Char.ofNat 105,
  Char.ofNat 111, Char.ofNat 110, Char.ofNat 80, Char.ofNat 111, Char.ofNat 105, Char.ofNat 110, Char.ofNat 116, Char.ofNat 115, Char.ofNat 32, Char.ofNat 98,
  Char.ofNat 105, Char.ofNat 116, Char.ofNat 101, Char.ofNat 109, Char.ofNat 112, Char.ofNat 111, Char.ofNat 114, Char.ofNat 97, Char.ofNat 108, Char.ofNat 47,
  Char.ofNat 98, Char.ofNat 105, Char.ofNat 116, Char.ofNat 101, Char.ofNat 109, Char.ofNat 112, Char.ofNat 111, Char.ofNat 114, Char.ofNat 97, Char.ofNat 108,
  Char.ofNat 108, Char.ofNat 97, Char.ofNat 119, Char.ofNat 48, Char.ofNat 53, Char.ofNat 46, Char.ofNat 82, Char.ofNat 101, Char.ofNat 103, Char.ofNat 105,
  Char.ofNat 111, Char.ofNat 110, Char.ofNat 84, Char.ofNat 101, Char.ofNat 108, Char.ofNat 108, Char.ofNat 115, Char.ofNat 32, Char.ofNat 98, Char.ofNat 105,
  Char.ofNat 116, Char.ofNat 101, Char.ofNat 109, Char.ofNat 112, Char.ofNat 111, Char.ofNat 114, Char.ofNat 97, Char.ofNat 108, Char.ofNat 47, Char.ofNat 98,
  Char.ofNat 105, Char.ofNat 116, Char.ofNat 101, Char.ofNat 109, Char.ofNat 112, Char.ofNat 111, Char.ofNat 114, Char.ofNat 97, Char.ofNat 108, Char.ofNat 108,
  Char.ofNat 97, Char.ofNat 119, Char.ofNat 51, Char.ofNat 49, Char.ofNat 46, Char.ofNat 82, Char.ofNat 116, Char.ofNat 114, Char.ofNat 101, Char.ofNat 101,
  Char.ofNat 66, Char.ofNat 117, Char.ofNat 105, Char.ofNat 108, Char.ofNat 100, Char.ofNat 32, Char.ofNat 98, Char.ofNat 105, Char.ofNat 116, Char.ofNat 101,
  Char.ofNat 109, Char.ofNat 112, Char.ofNat 111, Char.ofNat 114, Char.ofNat 97, Char.ofNat 108, Char.ofNat 47, Char.ofNat 98, Char.ofNat 105, Char.ofNat 116,
  Char.ofNat 101, Char.ofNat 109, Char.ofNat 112, Char.ofNat 111, Char.ofNat 114, Char.ofNat 97, Char.ofNat 108, Char.ofNat 108, Char.ofNat 97, Char.ofNat 119,
  Char.ofNat 51, Char.ofNat 49, Char.ofNat 46, Char.ofNat 82, Char.ofNat 116, Char.ofNat 114, Char.ofNat 101, Char.ofNat 101, Char.ofNat 83, Char.ofNat 101,
  Char.ofNat 97, Char.ofNat 114, Char.ofNat 99, Char.ofNat 104, Char.ofNat 32, Char.ofNat 98, Char.ofNat 105, Char.ofNat 116, Char.ofNat 101, Char.ofNat 109,
  Char.ofNat 112, Char.ofNat 111, Char.ofNat 114, Char.ofNat 97, Char.ofNat 108, Char.ofNat 47, Char.ofNat 98, Char.ofNat 105, Char.ofNat 116, Char.ofNat 101,
  Char.ofNat 109, Char.ofNat 112, Char.ofNat 111, Char.ofNat 114, Char.ofNat 97, Char.ofNat 108, Char.ofNat 108, Char.ofNat 97, Char.ofNat 119, Char.ofNat 51,
  Char.ofNat 49, Char.ofNat 46, Char.ofNat 82, Char.ofNat 116, Char.ofNat 114, Char.ofNat 101, Char.ofNat 101, Char.ofNat 83, Char.ofNat 116, Char.ofNat 97,
  Char.ofNat 98, Char.ofNat 32, Char.ofNat 98, Char.ofNat 105, Char.ofNat 116, Char.ofNat 101, Char.ofNat 109, Char.ofNat 112, Char.ofNat 111, Char.ofNat 114,
  Char.ofNat 97, Char.ofNat 108, Char.ofNat 47, Char.ofNat 98, Char.ofNat 105, Char.ofNat 116, Char.ofNat 101, Char.ofNat 109, Char.ofNat 112, Char.ofNat 111,
  Char.ofNat 114, Char.ofNat 97, Char.ofNat 108, Char.ofNat 108, Char.ofNat 97, Char.ofNat 119, Char.ofNat 51, Char.ofNat 49, Char.ofNat 46, Char.ofNat 82,
  Char.ofNat 116, Char.ofNat 114, Char.ofNat 101, Char.ofNat 101, Char.ofNat 83, Char.ofNat 97, Char.ofNat 109, Char.ofNat 101, Char.ofNat 32, Char.ofNat 98,
  Char.ofNat 105, Char.ofNat 116, Char.ofNat 101, Char.ofNat 109, Char.ofNat 112, Char.ofNat 111, Char.ofNat 114, Char.ofNat 97, Char.ofNat 108, Char.ofNat 47,
  Char.ofNat 98, Char.ofNat 105, Char.ofNat 116, Char.ofNat 101, Char.ofNat 109, Char.ofNat 112, Char.ofNat 111, Char.ofNat 114, Char.ofNat 97, Char.ofNat 108,
  Char.ofNat 108, Char.ofNat 97, Char.ofNat 119, Char.ofNat 51, Char.ofNat 49, Char.ofNat 46, Char.ofNat 82, Char.ofNat 116, Char.ofNat 114, Char.ofNat 101,
  Char.ofNat 101, Char.ofNat 80, Char.ofNat 97, Char.ofNat 114, Char.ofNat 116, Char.ofNat 115, Char.ofNat 32, Char.ofNat 98, Char.ofNat 105, Char.ofNat 116,
  Char.ofNat 101, Char.ofNat 109, Char.ofNat 112, Char.ofNat 111, Char.ofNat 114, Char.ofNat 97, Char.ofNat 108, Char.ofNat 47, Char.ofNat 98, Char.ofNat 105,
  Char.ofNat 116, Char.ofNat 101, Char.ofNat 109, Char.ofNat 112, Char.ofNat 111, Char.ofNat 114, Char.ofNat 97, Char.ofNat 108, Char.ofNat 108, Char.ofNat 97,
  Char.ofNat 119, Char.ofNat 51, Char.ofNat 49, Char.ofNat 46, Char.ofNat 82, Char.ofNat 116, Char.ofNat 114, Char.ofNat 101, Char.ofNat 101, Char.ofNat 80,
  Char.ofNat 114, Char.ofNat 117, Char.ofNat 110, Char.ofNat 101, Char.ofNat 115, Char.ofNat 32, Char.ofNat 98, Char.ofNat 105, Char.ofNat 116, Char.ofNat 101,
  Char.ofNat 109, Char.ofNat 112, Char.ofNat 111, Char.ofNat 114, Char.ofNat 97, Char.ofNat 108, Char.ofNat 47, Char.ofNat 98, Char.ofNat 105, Char.ofNat 116,
  Char.ofNat 101, Char.ofNat 109, Char.ofNat 112, Char.ofNat 111, Char.ofNat 114, Char.ofNat 97, Char.ofNat 108, Char.ofNat 108, Char.ofNat 97, Char.ofNat 119,
  Char.ofNat 52, Char.ofNat 54, Char.ofNat 46, Char.ofNat 67, Char.ofNat 111, Char.ofNat 110, Char.ofNat 102, Char.ofNat 108, Char.ofNat 105, Char.ofNat 99,
  Char.ofNat 116, Char.ofNat 73, Char.ofNat 110, Char.ofNat 115, Char.ofNat 116, Char.ofNat 97, Char.ofNat 110, Char.ofNat 116, Char.ofNat 115, Char.ofNat 32,
  Char.ofNat 98, Char.ofNat 105, Char.ofNat 116, Char.ofNat 101, Char.ofNat 109, Char.ofNat 112, Char.ofNat 111, Char.ofNat 114, Char.ofNat 97, Char.ofNat 108,
  Char.ofNat 47, Char.ofNat 98, Char.ofNat 105, Char.ofNat 116, Char.ofNat 101, Char.ofNat 109, Char.ofNat 112, Char.ofNat 111, Char.ofNat 114, Char.ofNat 97,
  Char.ofNat 108, Char.ofNat 108, Char.ofNat 97, Char.ofNat 119, Char.ofNat 52, Char.ofNat 54, Char.ofNat 46, Char.ofNat 67, Char.ofNat 111, Char.ofNat 110,
  Char.ofNat 102, Char.ofNat 108, Char.ofNat 105, Char.ofNat 99, Char.ofNat 116, Char.ofNat 78, Char.ofNat 111, Char.ofNat 116, Char.ofNat 104, Char.ofNat 105,
  Char.ofNat 110, Char.ofNat 103]
theorem sign_eq : Try.prog.initOrder = String.ofList sign := by kernel_rfl
theorem sign_list : Try.prog.initOrder.toList = sign := by rw [sign_eq, String.toList_ofList]
theorem words_sign : behindMainWord (wordsSigns sign) = cutW :: (wordsSigns sign).drop 3 := by kernel_rfl
theorem words : behindMainWord (wordsSigns Try.prog.initOrder.toList) = cutW :: (wordsSigns sign).drop 3 := by rw [sign_list]; exact words_sign
theorem laysLater_eq : Try.prog.laysLater = false := by kernel_rfl
theorem bearsReflect_eq : Try.prog.bearsReflect = false := by kernel_rfl
theorem doorFits_eq : Try.prog.doorFits [] = true := by kernel_rfl
theorem make_eq : Try.prog.make = some .cut := make_of words
theorem liftsFinal_eq : Try.prog.liftsFinal = false := liftsFinal_of words
theorem mayEnter_eq : Try.prog.mayEnter = true := mayEnter_of words laysLater_eq bearsReflect_eq doorFits_eq
end Go.Proofs.Ytdcelpppgbmlaaa
