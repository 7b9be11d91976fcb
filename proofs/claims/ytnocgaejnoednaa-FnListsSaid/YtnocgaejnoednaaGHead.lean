/- Two closed facts of this seat's program, for the rows of all its laws; no condition. -/
import Derived.Test.YtnocgaejnoednaaRows
import Derived.JoinedOf
import Derived.KernelRfl
namespace Go.Proofs.Ytnocgaejnoednaa.Head
set_option maxRecDepth 100000
def nums : List Nat := [104, 97, 114, 110, 101, 115, 115, 32, 52, 57, 49, 49, 100, 98, 48, 52, 97, 97, 53, 48, 54, 49, 50, 56, 98, 100, 57, 99, 56, 98, 100, 54, 52, 51, 97, 101, 57, 53, 53, 51, 101, 97, 101, 57, 57, 52, 52, 57, 55, 100, 51, 97, 53, 57, 97, 97, 51, 50, 53, 99, 101, 54, 57, 97, 100, 98, 51, 53, 52, 99, 97, 102, 32, 99, 117, 116, 32, 97, 116, 32, 108, 111, 111, 112, 46, 101, 120, 97, 109, 112, 108, 101, 47, 103, 48, 48, 54, 56, 50, 47, 108, 97, 119, 115, 46, 70, 110, 82, 101, 110, 97, 109, 101, 100, 32, 108, 111, 111, 112, 46, 101, 120, 97, 109, 112, 108, 101, 47, 103, 48, 48, 54, 56, 50, 47, 108, 97, 119, 115, 46, 70, 110, 82, 101, 112, 108, 97, 99, 101, 100, 32, 108, 111, 111, 112, 46, 101, 120, 97, 109, 112, 108, 101, 47, 103, 48, 48, 54, 56, 50, 47, 108, 97, 119, 115, 46, 70, 110, 77, 97, 116, 99, 104, 101, 100, 32, 108, 111, 111, 112, 46, 101, 120, 97, 109, 112, 108, 101, 47, 103, 48, 48, 54, 56, 50, 47, 108, 97, 119, 115, 46, 70, 110, 85, 110, 105, 102, 105, 101, 100, 32, 108, 111, 111, 112, 46, 101, 120, 97, 109, 112, 108, 101, 47, 103, 48, 48, 54, 56, 50, 47, 108, 97, 119, 115, 46, 70, 110, 79, 114, 100, 101, 114, 32, 108, 111, 111, 112, 46, 101, 120, 97, 109, 112, 108, 101, 47, 103, 48, 48, 54, 56, 50, 47, 108, 97, 119, 115, 46, 70, 110, 76, 105, 115, 116, 115]
def signs : List Char := nums.map Char.ofNat
theorem word : Try.prog.initOrder = ("harness 4911db04aa506128bd9c8bd643ae9553eae994497d3a59aa325ce69adb354caf cut at loop.example/g00682/laws.FnRenamed loop.example/g00682/laws.FnReplaced loop.example/g00682/laws.FnMatched loop.example/g00682/laws.FnUnified loop.example/g00682/laws.FnOrder loop.example/g00682/laws.FnLists" : String) := by kernel_rfl
theorem word_signs : ("harness 4911db04aa506128bd9c8bd643ae9553eae994497d3a59aa325ce69adb354caf cut at loop.example/g00682/laws.FnRenamed loop.example/g00682/laws.FnReplaced loop.example/g00682/laws.FnMatched loop.example/g00682/laws.FnUnified loop.example/g00682/laws.FnOrder loop.example/g00682/laws.FnLists" : String) = String.ofList signs := by kernel_rfl
theorem order_signs : Try.prog.initOrder.toList = signs :=
  (congrArg String.toList word).trans ((congrArg String.toList word_signs).trans String.toList_ofList)
def cutw : List Char := [Char.ofNat 99, Char.ofNat 117, Char.ofNat 116]
def tl : List (List Char) := (wordsSigns signs).drop 3
def w0 : List Char := [Char.ofNat 104, Char.ofNat 97, Char.ofNat 114, Char.ofNat 110, Char.ofNat 101, Char.ofNat 115, Char.ofNat 115]
def w1 : List Char := [Char.ofNat 52, Char.ofNat 57, Char.ofNat 49, Char.ofNat 49, Char.ofNat 100, Char.ofNat 98, Char.ofNat 48, Char.ofNat 52, Char.ofNat 97, Char.ofNat 97, Char.ofNat 53, Char.ofNat 48, Char.ofNat 54, Char.ofNat 49, Char.ofNat 50, Char.ofNat 56, Char.ofNat 98, Char.ofNat 100, Char.ofNat 57, Char.ofNat 99, Char.ofNat 56, Char.ofNat 98, Char.ofNat 100, Char.ofNat 54, Char.ofNat 52, Char.ofNat 51, Char.ofNat 97, Char.ofNat 101, Char.ofNat 57, Char.ofNat 53, Char.ofNat 53, Char.ofNat 51, Char.ofNat 101, Char.ofNat 97, Char.ofNat 101, Char.ofNat 57, Char.ofNat 57, Char.ofNat 52, Char.ofNat 52, Char.ofNat 57, Char.ofNat 55, Char.ofNat 100, Char.ofNat 51, Char.ofNat 97, Char.ofNat 53, Char.ofNat 57, Char.ofNat 97, Char.ofNat 97, Char.ofNat 51, Char.ofNat 50, Char.ofNat 53, Char.ofNat 99, Char.ofNat 101, Char.ofNat 54, Char.ofNat 57, Char.ofNat 97, Char.ofNat 100, Char.ofNat 98, Char.ofNat 51, Char.ofNat 53, Char.ofNat 52, Char.ofNat 99, Char.ofNat 97, Char.ofNat 102]
theorem behind_any (ws : List (List Char)) : behindMainWord (w0 :: w1 :: ws) = ws := by kernel_rfl
theorem words_is : wordsSigns signs = w0 :: w1 :: cutw :: tl := by kernel_rfl
theorem behind : behindMainWord (wordsSigns Try.prog.initOrder.toList) = cutw :: tl := by
  rw [order_signs, words_is]
  exact behind_any _
theorem strip (ws : List (List Char)) : stripLifts liftWords (cutw :: ws) = ([], cutw :: ws) := by kernel_rfl
theorem later : Try.prog.laysLater = false := by kernel_rfl
theorem reflects : Try.prog.bearsReflect = false := by kernel_rfl
theorem door : Try.prog.doorFits [] = true := by kernel_rfl
theorem is_cut (ws : List (List Char)) : ((cutw :: ws).head? == some "cut".toList) = true := by kernel_rfl
theorem no_carried (ws : List (List Char)) : ((cutw :: ws).head? == some "carried".toList) = false := by kernel_rfl
theorem no_lift : ((([] : List String).contains "reflectrows" || !([] : List String).contains "leanrows")) = true := by kernel_rfl
theorem no_finals : (([] : List String).contains "finals") = false := by kernel_rfl
theorem mayEnter_of (P : Program) (ws : List (List Char)) (h : behindMainWord (wordsSigns P.initOrder.toList) = cutw :: ws) (h1 : P.laysLater = false) (h2 : P.bearsReflect = false) (h3 : P.doorFits [] = true) : P.mayEnter = true := by
  unfold Program.mayEnter
  rw [h]
  simp only [strip ws, h1, h2, h3, is_cut ws, no_lift, Bool.not_false, Bool.or_true, Bool.and_true, Bool.and_self]
theorem headLifts_of (P : Program) (ws : List (List Char)) (h : behindMainWord (wordsSigns P.initOrder.toList) = cutw :: ws) : P.headLifts = [] := by
  unfold Program.headLifts
  rw [h]
  simp only [strip ws, is_cut ws, if_true]
theorem lifts_of (P : Program) (ws : List (List Char)) (h : behindMainWord (wordsSigns P.initOrder.toList) = cutw :: ws) : P.liftsFinal = false := by
  unfold Program.liftsFinal
  rw [headLifts_of P ws h, h]
  simp only [no_carried ws, no_finals, Bool.false_and, Bool.false_or]
theorem not_gc : (cutw == "gc".toList || cutw == "spec".toList) = false := by kernel_rfl
theorem cut_or (ws : List (List Char)) : (cutw == "cut".toList || (cutw == "finals".toList && ws.head? == some "cut".toList)) = true := by kernel_rfl
theorem make_of (P : Program) (ws : List (List Char)) (h : behindMainWord (wordsSigns P.initOrder.toList) = cutw :: ws) : P.make = some .cut := by
  unfold Program.make
  rw [h]
  simp only [not_gc, cut_or ws, if_true, Bool.false_eq_true, if_false]
theorem makes : Try.prog.make = some .cut := make_of _ tl behind
theorem mayEnter : Try.prog.mayEnter = true := mayEnter_of _ tl behind later reflects door
theorem lifts : Try.prog.liftsFinal = false := lifts_of _ tl behind
end Go.Proofs.Ytnocgaejnoednaa.Head
