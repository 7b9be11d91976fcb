/- Two closed facts of this seat's program, for the rows of all its laws; no condition. -/
import Derived.Test.YtebamddebjehdaaRows
import Derived.JoinedOf
import Derived.KernelRfl
namespace Go.Proofs.Ytebamddebjehdaa.Head
set_option maxRecDepth 100000
def nums : List Nat := [104, 97, 114, 110, 101, 115, 115, 32, 50, 102, 50, 50, 98, 98, 51, 53, 102, 102, 48, 55, 48, 56, 49, 101, 56, 97, 48, 98, 100, 57, 56, 98, 98, 56, 48, 54, 56, 50, 55, 52, 99, 56, 100, 51, 57, 55, 98, 51, 102, 55, 49, 55, 48, 49, 54, 49, 98, 57, 57, 99, 49, 99, 53, 102, 99, 98, 100, 52, 52, 57, 101, 51, 32, 99, 117, 116, 32, 97, 116, 32, 108, 111, 111, 112, 46, 101, 120, 97, 109, 112, 108, 101, 47, 103, 48, 48, 54, 56, 50, 47, 108, 97, 119, 115, 46, 70, 110, 69, 120, 97, 99, 116, 85, 110, 105, 102, 121, 32, 108, 111, 111, 112, 46, 101, 120, 97, 109, 112, 108, 101, 47, 103, 48, 48, 54, 56, 50, 47, 108, 97, 119, 115, 46, 70, 110, 69, 120, 97, 99, 116, 82, 101, 97, 100, 84, 101, 114, 109]
def signs : List Char := nums.map Char.ofNat
theorem word : Try.prog.initOrder = ("harness 2f22bb35ff07081e8a0bd98bb8068274c8d397b3f7170161b99c1c5fcbd449e3 cut at loop.example/g00682/laws.FnExactUnify loop.example/g00682/laws.FnExactReadTerm" : String) := by kernel_rfl
theorem word_signs : ("harness 2f22bb35ff07081e8a0bd98bb8068274c8d397b3f7170161b99c1c5fcbd449e3 cut at loop.example/g00682/laws.FnExactUnify loop.example/g00682/laws.FnExactReadTerm" : String) = String.ofList signs := by kernel_rfl
theorem order_signs : Try.prog.initOrder.toList = signs :=
  (congrArg String.toList word).trans ((congrArg String.toList word_signs).trans String.toList_ofList)
def cutw : List Char := [Char.ofNat 99, Char.ofNat 117, Char.ofNat 116]
def tl : List (List Char) := (wordsSigns signs).drop 3
def w0 : List Char := [Char.ofNat 104, Char.ofNat 97, Char.ofNat 114, Char.ofNat 110, Char.ofNat 101, Char.ofNat 115, Char.ofNat 115]
def w1 : List Char := [Char.ofNat 50, Char.ofNat 102, Char.ofNat 50, Char.ofNat 50, Char.ofNat 98, Char.ofNat 98, Char.ofNat 51, Char.ofNat 53, Char.ofNat 102, Char.ofNat 102, Char.ofNat 48, Char.ofNat 55, Char.ofNat 48, Char.ofNat 56, Char.ofNat 49, Char.ofNat 101, Char.ofNat 56, Char.ofNat 97, Char.ofNat 48, Char.ofNat 98, Char.ofNat 100, Char.ofNat 57, Char.ofNat 56, Char.ofNat 98, Char.ofNat 98, Char.ofNat 56, Char.ofNat 48, Char.ofNat 54, Char.ofNat 56, Char.ofNat 50, Char.ofNat 55, Char.ofNat 52, Char.ofNat 99, Char.ofNat 56, Char.ofNat 100, Char.ofNat 51, Char.ofNat 57, Char.ofNat 55, Char.ofNat 98, Char.ofNat 51, Char.ofNat 102, Char.ofNat 55, Char.ofNat 49, Char.ofNat 55, Char.ofNat 48, Char.ofNat 49, Char.ofNat 54, Char.ofNat 49, Char.ofNat 98, Char.ofNat 57, Char.ofNat 57, Char.ofNat 99, Char.ofNat 49, Char.ofNat 99, Char.ofNat 53, Char.ofNat 102, Char.ofNat 99, Char.ofNat 98, Char.ofNat 100, Char.ofNat 52, Char.ofNat 52, Char.ofNat 57, Char.ofNat 101, Char.ofNat 51]
theorem behind_any (ws : List (List Char)) : behindMainWord (w0 :: w1 :: ws) = ws := by kernel_rfl
theorem words_is : wordsSigns signs = w0 :: w1 :: cutw :: tl := by kernel_rfl
theorem behind : behindMainWord (wordsSigns Try.prog.initOrder.toList) = cutw :: tl := by
  rw [order_signs, words_is]
  exact behind_any _
theorem strip (ws : List (List Char)) : stripLifts liftWords (cutw :: ws) = ([], cutw :: ws) := by kernel_rfl
theorem later : Try.prog.laysLater = false := by kernel_rfl
theorem reflects : Try.prog.bearsReflect = false := by kernel_rfl
theorem door : Try.prog.doorFits [] = true := by kernel_rfl
theorem is_cut (ws : List (List Char)) : ((cutw :: ws).head? == some "cut".toList) = true := by kernel_rfl
theorem no_carried (ws : List (List Char)) : ((cutw :: ws).head? == some "carried".toList) = false := by kernel_rfl
theorem no_lift : ((([] : List String).contains "reflectrows" || !([] : List String).contains "leanrows")) = true := by kernel_rfl
theorem no_finals : (([] : List String).contains "finals") = false := by kernel_rfl
/-- Over a program that is a variable: nothing is reckoned. -/
theorem mayEnter_of (P : Program) (ws : List (List Char)) (h : behindMainWord (wordsSigns P.initOrder.toList) = cutw :: ws) (h1 : P.laysLater = false) (h2 : P.bearsReflect = false) (h3 : P.doorFits [] = true) : P.mayEnter = true := by
  unfold Program.mayEnter
  rw [h]
  simp only [strip ws, h1, h2, h3, is_cut ws, no_lift, Bool.not_false, Bool.or_true, Bool.and_true, Bool.and_self]
theorem headLifts_of (P : Program) (ws : List (List Char)) (h : behindMainWord (wordsSigns P.initOrder.toList) = cutw :: ws) : P.headLifts = [] := by
  unfold Program.headLifts
  rw [h]
  simp only [strip ws, is_cut ws, if_true]
theorem lifts_of (P : Program) (ws : List (List Char)) (h : behindMainWord (wordsSigns P.initOrder.toList) = cutw :: ws) : P.liftsFinal = false := by
  unfold Program.liftsFinal
  rw [headLifts_of P ws h, h]
  simp only [no_carried ws, no_finals, Bool.false_and, Bool.false_or]
theorem not_gc : (cutw == "gc".toList || cutw == "spec".toList) = false := by kernel_rfl
theorem cut_or (ws : List (List Char)) : (cutw == "cut".toList || (cutw == "finals".toList && ws.head? == some "cut".toList)) = true := by kernel_rfl
theorem make_of (P : Program) (ws : List (List Char)) (h : behindMainWord (wordsSigns P.initOrder.toList) = cutw :: ws) : P.make = some .cut := by
  unfold Program.make
  rw [h]
  simp only [not_gc, cut_or ws, if_true, Bool.false_eq_true, if_false]
theorem makes : Try.prog.make = some .cut := make_of _ tl behind
theorem mayEnter : Try.prog.mayEnter = true := mayEnter_of _ tl behind later reflects door
theorem lifts : Try.prog.liftsFinal = false := lifts_of _ tl behind
end Go.Proofs.Ytebamddebjehdaa.Head
