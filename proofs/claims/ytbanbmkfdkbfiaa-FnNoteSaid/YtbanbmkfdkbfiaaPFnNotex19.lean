import Derived.Test.YtbanbmkfdkbfiaaPFnNotex0
import Derived.Test.YtbanbmkfdkbfiaaPFnNotex3
import Derived.Test.YtbanbmkfdkbfiaaPFnNotex6
import Derived.Test.YtbanbmkfdkbfiaaPFnNotex8
import Derived.Test.YtbanbmkfdkbfiaaPFnNotex9
import Derived.Test.YtbanbmkfdkbfiaaPFnNotex10
import Derived.Test.YtbanbmkfdkbfiaaPFnNotex11
import Derived.Test.YtbanbmkfdkbfiaaPFnNotex12
import Derived.Test.YtbanbmkfdkbfiaaPFnNotex13
import Derived.Test.YtbanbmkfdkbfiaaPFnNotex14
import Derived.Test.YtbanbmkfdkbfiaaPFnNotex17
import Derived.Test.YtbanbmkfdkbfiaaPFnNotex18
namespace Go.Proofs.Ytbanbmkfdkbfiaa.PFnNote
open Go.RowKit Go.Proofs.YtbanbmkfdkbfiaaW.PrintWords Go.Proofs.YtbanbmkfdkbfiaaW.PrintLast Go.Proofs.YtbanbmkfdkbfiaaW.PrintMore
attribute [local go_sem] max2_int min2_int max_two min_two max_three min_three max_four min_four
set_option linter.unusedVariables false
set_option linter.unusedSimpArgs false
attribute [local go_sem high] eqA46
mutual
def laws_FnNote.j0 : Nat → List Int → List Int → Bool → Option (Bool)
 | 0, _, _, _ => none
 | k + 1, x0, x1, x19 => if x19 = true then (some true) else ((spec_DrawNoteBytes.f k x0).bind fun bt436 => ((impl_NoteBytes.f k bt436.1 bt436.2.1 bt436.2.2.1 bt436.2.2.2.1 bt436.2.2.2.2.1 bt436.2.2.2.2.2.1 bt436.2.2.2.2.2.2.1 bt436.2.2.2.2.2.2.2).bind fun t445 => ((spec_DrawNoteRead.f k x1).bind fun t446 => ((impl_NoteRead.f k t446).bind fun bt447 => ((spec_DrawDumpOf.f k x1).bind fun t457 => ((impl_DumpOf.f k t457).bind fun t460 => ((spec_NoteBytes.f k bt436.1 bt436.2.1 bt436.2.2.1 bt436.2.2.2.1 bt436.2.2.2.2.1 bt436.2.2.2.2.2.1 bt436.2.2.2.2.2.2.1 bt436.2.2.2.2.2.2.2).bind fun t463 => (if t445.toList = t463.toList then ((spec_NoteRead.f k t446).bind fun bt464 => (if ((!(bt447.1 == bt464.1) || ((!(bt447.2.1 == bt464.2.1) || (!(bt447.2.2.1 == bt464.2.2.1) || (!(bt447.2.2.2.1 == bt464.2.2.2.1) || (!(bt447.2.2.2.2.1 == bt464.2.2.2.2.1) || (!(bt447.2.2.2.2.2.1 == bt464.2.2.2.2.2.1) || (!(bt447.2.2.2.2.2.2.1 == bt464.2.2.2.2.2.2.1) || (!(bt447.2.2.2.2.2.2.2.1 == bt464.2.2.2.2.2.2.2.1)))))))))) || (!(bt447.2.2.2.2.2.2.2.2 == bt464.2.2.2.2.2.2.2.2))) = true then (laws_FnNote.j1 k t445 t446 t457 t460 true bt436.1 bt436.2.1 bt436.2.2.1 bt436.2.2.2.1 bt436.2.2.2.2.1 bt436.2.2.2.2.2.1 bt436.2.2.2.2.2.2.1 bt436.2.2.2.2.2.2.2 bt447.1 bt447.2.1 bt447.2.2.1 bt447.2.2.2.1 bt447.2.2.2.2.1 bt447.2.2.2.2.2.1 bt447.2.2.2.2.2.2.1 bt447.2.2.2.2.2.2.2.1 bt447.2.2.2.2.2.2.2.2) else ((spec_DumpOf.f k t457).bind fun t473 => ((laws_lwTexts.f k t460 t473).bind fun t476 => (if t476 = true then ((impl_NoteRight.f k bt436.1 bt436.2.1 bt436.2.2.1 bt436.2.2.2.1 bt436.2.2.2.2.1 bt436.2.2.2.2.2.1 bt436.2.2.2.2.2.2.1 bt436.2.2.2.2.2.2.2).bind fun t477 => ((spec_NoteRight.f k bt436.1 bt436.2.1 bt436.2.2.1 bt436.2.2.2.1 bt436.2.2.2.2.1 bt436.2.2.2.2.2.1 bt436.2.2.2.2.2.2.1 bt436.2.2.2.2.2.2.2).bind fun t478 => (laws_FnNote.j1 k t445 t446 t457 t460 (t477 != t478) bt436.1 bt436.2.1 bt436.2.2.1 bt436.2.2.2.1 bt436.2.2.2.2.1 bt436.2.2.2.2.2.1 bt436.2.2.2.2.2.2.1 bt436.2.2.2.2.2.2.2 bt447.1 bt447.2.1 bt447.2.2.1 bt447.2.2.2.1 bt447.2.2.2.2.1 bt447.2.2.2.2.2.1 bt447.2.2.2.2.2.2.1 bt447.2.2.2.2.2.2.2.1 bt447.2.2.2.2.2.2.2.2))) else (laws_FnNote.j1 k t445 t446 t457 t460 true bt436.1 bt436.2.1 bt436.2.2.1 bt436.2.2.2.1 bt436.2.2.2.2.1 bt436.2.2.2.2.2.1 bt436.2.2.2.2.2.2.1 bt436.2.2.2.2.2.2.2 bt447.1 bt447.2.1 bt447.2.2.1 bt447.2.2.2.1 bt447.2.2.2.2.1 bt447.2.2.2.2.2.1 bt447.2.2.2.2.2.2.1 bt447.2.2.2.2.2.2.2.1 bt447.2.2.2.2.2.2.2.2)))))) else (laws_FnNote.j1 k t445 t446 t457 t460 true bt436.1 bt436.2.1 bt436.2.2.1 bt436.2.2.2.1 bt436.2.2.2.2.1 bt436.2.2.2.2.2.1 bt436.2.2.2.2.2.2.1 bt436.2.2.2.2.2.2.2 bt447.1 bt447.2.1 bt447.2.2.1 bt447.2.2.2.1 bt447.2.2.2.2.1 bt447.2.2.2.2.2.1 bt447.2.2.2.2.2.2.1 bt447.2.2.2.2.2.2.2.1 bt447.2.2.2.2.2.2.2.2)))))))))
def laws_FnNote.j1 : Nat → ByteArray → ByteArray → List (S24) → List ByteArray → Bool → Int → Int → Int → Int → Int → Int → Int → Bool → Int → Int → Int → Int → Int → Int → Int → Bool → Int → Option (Bool)
 | 0, _, _, _, _, _, _, _, _, _, _, _, _, _, _, _, _, _, _, _, _, _, _ => none
 | k + 1, x6, x7, x9, x10, x55, x445000, x445001, x445002, x445003, x445004, x445005, x445006, x445007, x457000, x457001, x457002, x457003, x457004, x457005, x457006, x457007, x457008 => if x55 = true then (some false) else (if x457008 = 0 then ((impl_NoteBytes.f k x457000 x457001 x457002 x457003 x457004 x457005 x457006 x457007).bind fun t479 => (if t479.toList = x7.toList then (if x6.toList = ([] : List UInt8) then (laws_FnNote.j2 k x9 x10 false) else ((impl_NoteRead.f k x6).bind fun bt480 => (if ((!(bt480.1 == x445000) || ((!(bt480.2.1 == x445001) || (!(bt480.2.2.1 == x445002) || (!(bt480.2.2.2.1 == x445003) || (!(bt480.2.2.2.2.1 == x445004) || (!(bt480.2.2.2.2.2.1 == x445005) || (!(bt480.2.2.2.2.2.2.1 == x445006) || (!(bt480.2.2.2.2.2.2.2.1 == x445007)))))))))) || (!(bt480.2.2.2.2.2.2.2.2 == 0))) = true then (laws_FnNote.j2 k x9 x10 true) else (laws_FnNote.j2 k x9 x10 (decide ((x6.size : Int) > 60)))))) else (laws_FnNote.j2 k x9 x10 true))) else (if x6.toList = ([] : List UInt8) then (laws_FnNote.j2 k x9 x10 false) else ((impl_NoteRead.f k x6).bind fun bt489 => (if ((!(bt489.1 == x445000) || ((!(bt489.2.1 == x445001) || (!(bt489.2.2.1 == x445002) || (!(bt489.2.2.2.1 == x445003) || (!(bt489.2.2.2.2.1 == x445004) || (!(bt489.2.2.2.2.2.1 == x445005) || (!(bt489.2.2.2.2.2.2.1 == x445006) || (!(bt489.2.2.2.2.2.2.2.1 == x445007)))))))))) || (!(bt489.2.2.2.2.2.2.2.2 == 0))) = true then (laws_FnNote.j2 k x9 x10 true) else (laws_FnNote.j2 k x9 x10 (decide ((x6.size : Int) > 60)))))))
def laws_FnNote.j2 : Nat → List (S24) → List ByteArray → Bool → Option (Bool)
 | 0, _, _, _ => none
 | k + 1, x9, x10, x81 => if x81 = true then (some false) else (if (x10.length : Int) = 0 then (some true) else (laws_FnNote.l0 k x9 x10 0))
def laws_FnNote.l0 : Nat → List (S24) → List ByteArray → Int → Option (Bool)
 | 0, _, _, _ => none
 | k + 1, x9, x10, x11 => if x11 < (x9.length : Int) then (if 0 ≤ x11 then (if x11 < (x10.length : Int) then ((impl_NoteRead.f k (rdOf ByteArray.empty x10 x11)).bind fun bt499 => (if ((!(bt499.1 == 1) || ((!(bt499.2.1 == ((rd_T24 x9 x11).f0)) || (!(bt499.2.2.1 == ((rd_T24 x9 x11).f1)) || (!(bt499.2.2.2.1 == ((rd_T24 x9 x11).f2)) || (!(bt499.2.2.2.2.1 == ((rd_T24 x9 x11).f3)) || (!(bt499.2.2.2.2.2.1 == ((rd_T24 x9 x11).f4)) || (!(bt499.2.2.2.2.2.2.1 == ((rd_T24 x9 x11).f5)) || (!(bt499.2.2.2.2.2.2.2.1 == ((rd_T24 x9 x11).f6))))))))))) || (!(bt499.2.2.2.2.2.2.2.2 == 0))) = true then (some false) else (laws_FnNote.l0 k x9 x10 (wrap64 (x11 + 1))))) else (none)) else (none)) else (if (x10.length : Int) = (wrap64 ((x9.length : Int) + 1)) then (if 0 ≤ (x9.length : Int) then (if (x9.length : Int) < (x10.length : Int) then ((impl_NoteRead.f k (rdOf ByteArray.empty x10 (x9.length : Int))).bind fun bt510 => (some ((bt510.1 == 3 && ((bt510.2.1 == 0 && (bt510.2.2.1 == 0 && (bt510.2.2.2.1 == 0 && (bt510.2.2.2.2.1 == 0 && (bt510.2.2.2.2.2.1 == 0 && (bt510.2.2.2.2.2.2.1 == 0 && (!bt510.2.2.2.2.2.2.2.1))))))))) && (bt510.2.2.2.2.2.2.2.2 == 0)))) else (none)) else (none)) else (some false))
end
def laws_FnNote.f (k : Nat) (l0 : List Int) (l1 : List Int) : Option (Bool) := if (l0.length : Int) > 1048576 then (laws_FnNote.j0 k l0 l1 true) else (laws_FnNote.j0 k l0 l1 (decide ((l1.length : Int) > 1048576)))
def laws_FnNote.T9 : Bool × List (List Nat × List Nat) := (true, [([], []), ([], []), ([1], [1]), ([0, 2], [0, 2]), ([3, 2], [3]), ([4], [4]), ([4], [4]), ([6, 4, 4], [4, 6]), ([5, 7, 4], [4, 5, 7]), ([4, 8], [4, 8]), ([9, 7], [9]), ([10], [10]), ([10], [10]), ([12, 10, 10], [10, 12]), ([11, 13, 13, 10], [10, 11, 13]), ([14, 10], [10, 14]), ([10, 15], [10, 15]), ([16, 14], [16]), ([17], [17]), ([18, 17, 17], [17, 18]), ([17], [17]), ([20, 19, 17], [17, 20]), ([19, 21, 17], [17, 19, 21]), ([17, 22], [17, 22])])
def laws_FnNote.B9 : List Nat := [0, 0, 2, 7, 15, 31, 31, 95, 255, 511, 1023, 2047, 2047, 6143, 16383, 32767, 65535, 131071, 262143, 524287, 262143, 2097151, 4194303, 8388607]
theorem laws_FnNote.tab9 : rtab .any (opsOf Try.f4 9) = laws_FnNote.T9 := by kernel_rfl
theorem laws_FnNote.bits9 : waitsOk laws_FnNote.T9.2 laws_FnNote.B9 = true := by kernel_rfl
def laws_FnNote.T11 : Bool × List (List Nat × List Nat) := (true, [([], []), ([0], [0]), ([1], [1]), ([2], [2]), ([3], [3]), ([4, 3], [3, 4]), ([5, 3, 3], [3, 5]), ([3], [3]), ([6, 7, 3], [3, 6, 7]), ([3, 8], [3, 8]), ([9, 6], [9]), ([10], [10]), ([11, 10], [10, 11]), ([12, 10, 10], [10, 12]), ([13], [13]), ([14, 13, 13], [13, 14]), ([13], [13]), ([16, 13], [13, 16]), ([15, 17, 13], [13, 15, 17]), ([18, 15, 13], [13, 18]), ([19], [19]), ([20, 19], [19, 20]), ([21, 19], [19, 21]), ([19, 22, 13], [13, 19, 22]), ([13, 23, 10], [10, 13, 23]), ([10, 24], [10, 24])])
def laws_FnNote.B11 : List Nat := [0, 1, 3, 7, 15, 31, 63, 15, 255, 511, 1023, 2047, 4095, 8191, 16383, 32767, 16383, 81919, 262143, 524287, 1048575, 2097151, 4194303, 8388607, 16777215, 33554431]
theorem laws_FnNote.tab11 : rtab .any (opsOf Try.f4 11) = laws_FnNote.T11 := by kernel_rfl
theorem laws_FnNote.bits11 : waitsOk laws_FnNote.T11.2 laws_FnNote.B11 = true := by kernel_rfl
def laws_FnNote.T18 : Bool × List (List Nat × List Nat) := (true, [([], []), ([], []), ([0, 1], [0, 1]), ([2], [2]), ([3], [3]), ([], []), ([], []), ([5, 6], [5, 6]), ([7], [7]), ([8], [8]), ([9], [9]), ([4, 10], [4, 10])])
def laws_FnNote.B18 : List Nat := [0, 0, 3, 7, 15, 0, 0, 96, 224, 480, 992, 2047]
theorem laws_FnNote.tab18 : rtab .any (opsOf Try.f4 18) = laws_FnNote.T18 := by kernel_rfl
theorem laws_FnNote.bits18 : waitsOk laws_FnNote.T18.2 laws_FnNote.B18 = true := by kernel_rfl
def laws_FnNote.q0 : Array Bool := #[false, false, false, false, false, false, false, false, false, false, false, false, false, false, false, false, false, false, false, false, false, false, false, false]
def laws_FnNote.q1 : Array Bool := #[true, false, false, false, false, false, false, false, false, false, false, false, false, false, false, false, false, false, false, false, false, false, false, false]
def laws_FnNote.q2 : Array Bool := #[true, true, false, false, false, false, false, false, false, false, false, false, false, false, false, false, false, false, false, false, false, false, false, false]
def laws_FnNote.q3 : Array Bool := #[true, true, true, false, false, false, false, false, false, false, false, false, false, false, false, false, false, false, false, false, false, false, false, false]
def laws_FnNote.q4 : Array Bool := #[true, true, true, true, false, false, false, false, false, false, false, false, false, false, false, false, false, false, false, false, false, false, false, false]
def laws_FnNote.q5 : Array Bool := #[true, true, true, true, true, false, false, false, false, false, false, false, false, false, false, false, false, false, false, false, false, false, false, false]
def laws_FnNote.q6 : Array Bool := #[true, true, true, true, true, false, true, false, false, false, false, false, false, false, false, false, false, false, false, false, false, false, false, false]
def laws_FnNote.q7 : Array Bool := #[true, true, true, true, true, true, true, false, false, false, false, false, false, false, false, false, false, false, false, false, false, false, false, false]
def laws_FnNote.q8 : Array Bool := #[true, true, true, true, true, true, true, true, false, false, false, false, false, false, false, false, false, false, false, false, false, false, false, false]
def laws_FnNote.q9 : Array Bool := #[true, true, true, true, true, true, true, true, true, false, false, false, false, false, false, false, false, false, false, false, false, false, false, false]
def laws_FnNote.q10 : Array Bool := #[true, true, true, true, true, true, true, true, true, true, false, false, false, false, false, false, false, false, false, false, false, false, false, false]
def laws_FnNote.q11 : Array Bool := #[true, true, true, true, true, true, true, true, true, true, true, false, false, false, false, false, false, false, false, false, false, false, false, false]
def laws_FnNote.q12 : Array Bool := #[true, true, true, true, true, true, true, true, true, true, true, true, false, false, false, false, false, false, false, false, false, false, false, false]
def laws_FnNote.q13 : Array Bool := #[true, true, true, true, true, true, true, true, true, true, true, true, true, false, false, false, false, false, false, false, false, false, false, false]
def laws_FnNote.q14 : Array Bool := #[true, true, true, true, true, true, true, true, true, true, true, true, true, true, false, false, false, false, false, false, false, false, false, false]
def laws_FnNote.q15 : Array Bool := #[true, true, true, true, true, true, true, true, true, true, true, true, true, true, true, false, false, false, false, false, false, false, false, false]
def laws_FnNote.q16 : Array Bool := #[true, true, true, true, true, true, true, true, true, true, true, true, true, true, true, true, false, false, false, false, false, false, false, false]
def laws_FnNote.q17 : Array Bool := #[true, true, true, true, true, true, true, true, true, true, true, true, true, true, true, true, true, false, false, false, false, false, false, false]
def laws_FnNote.q18 : Array Bool := #[true, true, true, true, true, true, true, true, true, true, true, true, true, true, true, true, true, true, false, false, false, false, false, false]
def laws_FnNote.q19 : Array Bool := #[true, true, true, true, true, true, true, true, true, true, true, true, true, true, true, true, true, true, true, false, false, false, false, false]
def laws_FnNote.q20 : Array Bool := #[true, true, true, true, true, true, true, true, true, true, true, true, true, true, true, true, true, true, true, true, false, false, false, false]
def laws_FnNote.q21 : Array Bool := #[true, true, true, true, true, true, true, true, true, true, true, true, true, true, true, true, true, true, true, true, true, false, false, false]
def laws_FnNote.q22 : Array Bool := #[true, true, true, true, true, true, true, true, true, true, true, true, true, true, true, true, true, true, true, true, true, true, false, false]
def laws_FnNote.q23 : Array Bool := #[true, true, true, true, true, true, true, true, true, true, true, true, true, true, true, true, true, true, true, true, true, true, true, false]
def laws_FnNote.q24 : Array Bool := #[true, true, true, true, true, true, true, true, true, true, true, true, true, true, true, true, true, true, true, true, true, true, true, true]
def laws_FnNote.q25 : Array Bool := #[false, false, false, false, false, false, false, false, false, false, false, false, false, false, false, false, false, false, false, false, false, false, false, false, false, false]
def laws_FnNote.q26 : Array Bool := #[true, false, false, false, false, false, false, false, false, false, false, false, false, false, false, false, false, false, false, false, false, false, false, false, false, false]
def laws_FnNote.q27 : Array Bool := #[true, true, false, false, false, false, false, false, false, false, false, false, false, false, false, false, false, false, false, false, false, false, false, false, false, false]
def laws_FnNote.q28 : Array Bool := #[true, true, true, false, false, false, false, false, false, false, false, false, false, false, false, false, false, false, false, false, false, false, false, false, false, false]
def laws_FnNote.q29 : Array Bool := #[true, true, true, true, false, false, false, false, false, false, false, false, false, false, false, false, false, false, false, false, false, false, false, false, false, false]
def laws_FnNote.q30 : Array Bool := #[true, true, true, true, true, false, false, false, false, false, false, false, false, false, false, false, false, false, false, false, false, false, false, false, false, false]
def laws_FnNote.q31 : Array Bool := #[true, true, true, true, true, false, false, true, false, false, false, false, false, false, false, false, false, false, false, false, false, false, false, false, false, false]
def laws_FnNote.q32 : Array Bool := #[true, true, true, true, true, true, false, true, false, false, false, false, false, false, false, false, false, false, false, false, false, false, false, false, false, false]
def laws_FnNote.q33 : Array Bool := #[true, true, true, true, true, true, true, true, false, false, false, false, false, false, false, false, false, false, false, false, false, false, false, false, false, false]
def laws_FnNote.q34 : Array Bool := #[true, true, true, true, true, true, true, true, true, false, false, false, false, false, false, false, false, false, false, false, false, false, false, false, false, false]
def laws_FnNote.q35 : Array Bool := #[true, true, true, true, true, true, true, true, true, true, false, false, false, false, false, false, false, false, false, false, false, false, false, false, false, false]
def laws_FnNote.q36 : Array Bool := #[true, true, true, true, true, true, true, true, true, true, true, false, false, false, false, false, false, false, false, false, false, false, false, false, false, false]
def laws_FnNote.q37 : Array Bool := #[true, true, true, true, true, true, true, true, true, true, true, true, false, false, false, false, false, false, false, false, false, false, false, false, false, false]
def laws_FnNote.q38 : Array Bool := #[true, true, true, true, true, true, true, true, true, true, true, true, true, false, false, false, false, false, false, false, false, false, false, false, false, false]
def laws_FnNote.q39 : Array Bool := #[true, true, true, true, true, true, true, true, true, true, true, true, true, true, false, false, false, false, false, false, false, false, false, false, false, false]
def laws_FnNote.q40 : Array Bool := #[true, true, true, true, true, true, true, true, true, true, true, true, true, true, true, false, false, false, false, false, false, false, false, false, false, false]
def laws_FnNote.q41 : Array Bool := #[true, true, true, true, true, true, true, true, true, true, true, true, true, true, true, true, false, false, false, false, false, false, false, false, false, false]
def laws_FnNote.q42 : Array Bool := #[true, true, true, true, true, true, true, true, true, true, true, true, true, true, true, true, true, false, false, false, false, false, false, false, false, false]
def laws_FnNote.q43 : Array Bool := #[true, true, true, true, true, true, true, true, true, true, true, true, true, true, true, true, true, true, false, false, false, false, false, false, false, false]
def laws_FnNote.q44 : Array Bool := #[true, true, true, true, true, true, true, true, true, true, true, true, true, true, true, true, true, true, true, false, false, false, false, false, false, false]
def laws_FnNote.q45 : Array Bool := #[true, true, true, true, true, true, true, true, true, true, true, true, true, true, true, true, true, true, true, true, false, false, false, false, false, false]
def laws_FnNote.q46 : Array Bool := #[true, true, true, true, true, true, true, true, true, true, true, true, true, true, true, true, true, true, true, true, true, false, false, false, false, false]
def laws_FnNote.q47 : Array Bool := #[true, true, true, true, true, true, true, true, true, true, true, true, true, true, true, true, true, true, true, true, true, true, false, false, false, false]
def laws_FnNote.q48 : Array Bool := #[true, true, true, true, true, true, true, true, true, true, true, true, true, true, true, true, true, true, true, true, true, true, true, false, false, false]
def laws_FnNote.q49 : Array Bool := #[true, true, true, true, true, true, true, true, true, true, true, true, true, true, true, true, true, true, true, true, true, true, true, true, false, false]
def laws_FnNote.q50 : Array Bool := #[true, true, true, true, true, true, true, true, true, true, true, true, true, true, true, true, true, true, true, true, true, true, true, true, true, false]
def laws_FnNote.q51 : Array Bool := #[true, true, true, true, true, true, true, true, true, true, true, true, true, true, true, true, true, true, true, true, true, true, true, true, true, true]
def laws_FnNote.q52 : Array Bool := #[true, true, true, true, true, true, true, true, true, true, true, true, true, true, true, false, true, false, false, false, false, false, false, false, false, false]
def laws_FnNote.q53 : Array Bool := #[true, true, true, true, true, true, true, true, true, true, true, true, true, true, true, false, true, true, false, false, false, false, false, false, false, false]
def laws_FnNote.q54 : Array Bool := #[true, true, true, true, true, true, false, false, false, false, false, false, false, false, false, false, false, false, false, false, false, false, false, false, false, false]
def laws_FnNote.q55 : Array Bool := #[true, true, true, true, true, true, true, false, false, false, false, false, false, false, false, false, false, false, false, false, false, false, false, false, false, false]
set_option maxHeartbeats 8000000 in
set_option maxRecDepth 100000 in
theorem laws_FnNote.calls (k : Nat) (A0 : Option Addr) (c0 : Nat) (l0 : List Int) (A1 : Option Addr) (c1 : Nat) (l1 : List Int) (r : Bool) (w : World) (hr0 : Kd.C (Kd.int .u8) w A0 l0.length l0) (hc0 : l0.length ≤ c0) (hr1 : Kd.C (Kd.int .u8) w A1 l1.length l1) (hc1 : l1.length ≤ c1) (hT : Aside0 (r = true)) (h : laws_FnNote.f k l0 l1 = some r) :
  Calls Try.prog 4 #[.slice A0 l0.length c0, .slice A1 l1.length c1] w fun e w' => e = .returned (.bool r) ∧ Below w.heap.size w w' := by
 have hu42 := Try.underlying42
 have hu46 := Try.underlying46
 have hu24 := Try.underlying24
 have HR0 := Aside0.mk hr0
 have HC0 := Aside0.mk hc0
 clear hr0 hc0
 have HR1 := Aside0.mk hr1
 have HC1 := Aside0.mk hc1
 clear hr1 hc1
 have HB := Aside0.mk (Below.refl w.heap.size w)
 have H : (if (l0.length : Int) > 1048576 then (laws_FnNote.j0 k l0 l1 true) else (laws_FnNote.j0 k l0 l1 (decide ((l1.length : Int) > 1048576)))) = some r := h
 clear h
 have HC3 := Aside0.mk H
 clear H
 go_enter Try.func4, Try.ntmps4
 go_upto_region 1 with (fail)
 go_cut [19] (fun v19 wc => ∃ (kq : Nat) (x19_2 : Bool), v19 = .bool x19_2 ∧ Aside0 (laws_FnNote.j0 kq l0 l1 x19_2 = some r) ∧ Aside0 (kq ≤ k) ∧ Aside0 (Below w.heap.size w wc))
 case first =>
  have H := HC3.out
  clear HC3
  by_cases c4 : (l0.length : Int) > 1048576
  ·rw [if_pos c4] at H
   have c4b0 : decide (1048576 < (l0.length : Int)) = true := decide_eq_true c4
   have c4b1 : decide (1048576 < l0.length) = true := decide_eq_true (by omega)
   clear c4
   (first | rw [c4b0] | (simp only [i64_w, i32_w]; rw [c4b0]) | skip)
   have H' := Aside0.mk H
   clear H
   go_wp2
   go_meet
   case rel => exact ⟨_, (true), (by first | rfl | (simp; done) | (simp [*]; done)), H', ⟨by first | omega | exact Nat.le_refl _⟩, ⟨by repeat (first | (with_reducible first | exact HB.out | apply below_alloc | apply pw_below_drewN | apply below_drew1) | exact HB.out)⟩⟩
  ·rw [if_neg c4] at H
   have c4b0 : decide (1048576 < (l0.length : Int)) = false := decide_eq_false c4
   have c4b1 : decide (1048576 < l0.length) = false := decide_eq_false (by omega)
   clear c4
   (first | rw [c4b0] | (simp only [i64_w, i32_w]; rw [c4b0]) | skip)
   have H' := Aside0.mk H
   clear H
   go_wp2
   go_meet
   case rel => exact ⟨_, (decide ((l1.length : Int) > 1048576)), (by first | rfl | (simp; done) | (simp [*]; done)), H', ⟨by first | omega | exact Nat.le_refl _⟩, ⟨by repeat (first | (with_reducible first | exact HB.out | apply below_alloc | apply pw_below_drewN | apply below_drew1) | exact HB.out)⟩⟩
 case rest =>
  clear HC3
  try clear c1
  try clear p2
  try clear c4
  try clear c4b0
  try clear c4b1
  obtain ⟨kq, x19_2, rfl, HA, HJ2, HB⟩ := hcut
  cases kq with
  | zero => exact absurd HA.out (by simp [laws_FnNote.j0])
  | succ kj2 =>
   have H := HA.out
   clear HA
   simp only [laws_FnNote.j0] at H
   by_cases c5 : x19_2 = true
   ·subst c5
    have H1 : (some true) = some r := by rw [if_pos rfl] at H; exact H
    clear H
    have H := H1
    clear H1
    obtain rfl := Option.some.inj H
    go_wp2
    go_ret
    exact ⟨by first | rfl | (simp [errW_none, errW_some] <;> rfl) | (simp [*, errW_none, errW_some] <;> rfl), by repeat (first | (with_reducible first | exact HB.out | apply below_alloc | apply pw_below_drewN | apply below_drew1) | exact HB.out)⟩
   ·replace c5 := Bool.eq_false_iff.mpr c5
    subst c5
    have H1 : ((spec_DrawNoteBytes.f kj2 l0).bind fun bt436 => ((impl_NoteBytes.f kj2 bt436.1 bt436.2.1 bt436.2.2.1 bt436.2.2.2.1 bt436.2.2.2.2.1 bt436.2.2.2.2.2.1 bt436.2.2.2.2.2.2.1 bt436.2.2.2.2.2.2.2).bind fun t445 => ((spec_DrawNoteRead.f kj2 l1).bind fun t446 => ((impl_NoteRead.f kj2 t446).bind fun bt447 => ((spec_DrawDumpOf.f kj2 l1).bind fun t457 => ((impl_DumpOf.f kj2 t457).bind fun t460 => ((spec_NoteBytes.f kj2 bt436.1 bt436.2.1 bt436.2.2.1 bt436.2.2.2.1 bt436.2.2.2.2.1 bt436.2.2.2.2.2.1 bt436.2.2.2.2.2.2.1 bt436.2.2.2.2.2.2.2).bind fun t463 => (if t445.toList = t463.toList then ((spec_NoteRead.f kj2 t446).bind fun bt464 => (if ((!(bt447.1 == bt464.1) || ((!(bt447.2.1 == bt464.2.1) || (!(bt447.2.2.1 == bt464.2.2.1) || (!(bt447.2.2.2.1 == bt464.2.2.2.1) || (!(bt447.2.2.2.2.1 == bt464.2.2.2.2.1) || (!(bt447.2.2.2.2.2.1 == bt464.2.2.2.2.2.1) || (!(bt447.2.2.2.2.2.2.1 == bt464.2.2.2.2.2.2.1) || (!(bt447.2.2.2.2.2.2.2.1 == bt464.2.2.2.2.2.2.2.1)))))))))) || (!(bt447.2.2.2.2.2.2.2.2 == bt464.2.2.2.2.2.2.2.2))) = true then (laws_FnNote.j1 kj2 t445 t446 t457 t460 true bt436.1 bt436.2.1 bt436.2.2.1 bt436.2.2.2.1 bt436.2.2.2.2.1 bt436.2.2.2.2.2.1 bt436.2.2.2.2.2.2.1 bt436.2.2.2.2.2.2.2 bt447.1 bt447.2.1 bt447.2.2.1 bt447.2.2.2.1 bt447.2.2.2.2.1 bt447.2.2.2.2.2.1 bt447.2.2.2.2.2.2.1 bt447.2.2.2.2.2.2.2.1 bt447.2.2.2.2.2.2.2.2) else ((spec_DumpOf.f kj2 t457).bind fun t473 => ((laws_lwTexts.f kj2 t460 t473).bind fun t476 => (if t476 = true then ((impl_NoteRight.f kj2 bt436.1 bt436.2.1 bt436.2.2.1 bt436.2.2.2.1 bt436.2.2.2.2.1 bt436.2.2.2.2.2.1 bt436.2.2.2.2.2.2.1 bt436.2.2.2.2.2.2.2).bind fun t477 => ((spec_NoteRight.f kj2 bt436.1 bt436.2.1 bt436.2.2.1 bt436.2.2.2.1 bt436.2.2.2.2.1 bt436.2.2.2.2.2.1 bt436.2.2.2.2.2.2.1 bt436.2.2.2.2.2.2.2).bind fun t478 => (laws_FnNote.j1 kj2 t445 t446 t457 t460 (t477 != t478) bt436.1 bt436.2.1 bt436.2.2.1 bt436.2.2.2.1 bt436.2.2.2.2.1 bt436.2.2.2.2.2.1 bt436.2.2.2.2.2.2.1 bt436.2.2.2.2.2.2.2 bt447.1 bt447.2.1 bt447.2.2.1 bt447.2.2.2.1 bt447.2.2.2.2.1 bt447.2.2.2.2.2.1 bt447.2.2.2.2.2.2.1 bt447.2.2.2.2.2.2.2.1 bt447.2.2.2.2.2.2.2.2))) else (laws_FnNote.j1 kj2 t445 t446 t457 t460 true bt436.1 bt436.2.1 bt436.2.2.1 bt436.2.2.2.1 bt436.2.2.2.2.1 bt436.2.2.2.2.2.1 bt436.2.2.2.2.2.2.1 bt436.2.2.2.2.2.2.2 bt447.1 bt447.2.1 bt447.2.2.1 bt447.2.2.2.1 bt447.2.2.2.2.1 bt447.2.2.2.2.2.1 bt447.2.2.2.2.2.2.1 bt447.2.2.2.2.2.2.2.1 bt447.2.2.2.2.2.2.2.2)))))) else (laws_FnNote.j1 kj2 t445 t446 t457 t460 true bt436.1 bt436.2.1 bt436.2.2.1 bt436.2.2.2.1 bt436.2.2.2.2.1 bt436.2.2.2.2.2.1 bt436.2.2.2.2.2.2.1 bt436.2.2.2.2.2.2.2 bt447.1 bt447.2.1 bt447.2.2.1 bt447.2.2.2.1 bt447.2.2.2.2.1 bt447.2.2.2.2.2.1 bt447.2.2.2.2.2.2.1 bt447.2.2.2.2.2.2.2.1 bt447.2.2.2.2.2.2.2.2))))))))) = some r := by rw [if_neg (show ¬ (false = true) by decide)] at H; exact H
    clear H
    have H := H1
    clear H1
    replace H := Option.bind_eq_some_iff.mp H
    obtain ⟨⟨t436, t437, t438, t439, t440, t441, t442, t443⟩, A60, H⟩ := H
    try dsimp only at H
    have A6 := Aside0.mk A60
    clear A60
    replace H := Option.bind_eq_some_iff.mp H
    obtain ⟨t445, A70, H⟩ := H
    try dsimp only at H
    have A7 := Aside0.mk A70
    clear A70
    replace H := Option.bind_eq_some_iff.mp H
    obtain ⟨t446, A80, H⟩ := H
    try dsimp only at H
    have A8 := Aside0.mk A80
    clear A80
    replace H := Option.bind_eq_some_iff.mp H
    obtain ⟨⟨t447, t448, t449, t450, t451, t452, t453, t454, t455⟩, A90, H⟩ := H
    try dsimp only at H
    have A9 := Aside0.mk A90
    clear A90
    replace H := Option.bind_eq_some_iff.mp H
    obtain ⟨t457, A100, H⟩ := H
    try dsimp only at H
    have A10 := Aside0.mk A100
    clear A100
    replace H := Option.bind_eq_some_iff.mp H
    obtain ⟨t460, A110, H⟩ := H
    try dsimp only at H
    have A11 := Aside0.mk A110
    clear A110
    have HC12 := Aside0.mk H
    clear H
    go_upto_region 9 with (first | ((with_reducible refine gate_callee (f := 22) rfl ?_); refine goesL_ (some 21) rfl rfl Try.func22 (by kernel_rfl) rfl #[.slice A0 l0.length c0] rfl (by (try simp only [mA, mC, mN]); first | done | rfl | (simp only [List.length_drop, List.length_take]; rfl)) ?_; (with_reducible refine (spec_DrawNoteBytes.calls kj2 _ _ l0 t436 t437 t438 t439 t440 t441 t442 t443 _ ?side1 ?side2 A6.out).mono ?_); (case side1 => repeat (first | exact (Kd.C_below HR0.out HB.out) | (with_reducible refine Kd.C_alloc ?_ _) | (with_reducible refine Kd.C_drewN ?_ _) | (with_reducible refine Kd.C_drew ?_))); (case side2 => exact HC0.out); rintro e w13 ⟨rfl, hb⟩; refine ⟨_, rfl, ?_⟩; have n0_ := Aside0.mk (below_step (by repeat (first | (with_reducible first | exact HB.out | apply below_alloc | apply pw_below_drewN | apply below_drew1) | exact HB.out)) hb); clear HB; have HB := n0_; clear n0_; (try clear hb); (try clear hb2); (try clear hk); (try clear hi)) | ((with_reducible refine gate_dst (N := 5) rfl ?_); (try (refine gate_guard (by rfl) ?_; dsimp only)); refine box_event ?hg (N := 5) ?hd (cs := #[.int .i64 0, .int .i64 0, .int .i64 0, .int .i64 0, .int .i64 0, .int .i64 0, .int .i64 0, .bool false]) (t := 42) ?hr ?_; (case hd => rfl); (case hg => rfl); (case hr => first | (go_simp; done) | (go_simp; rfl)); intro gb444 hg w14 hbox hb; have n0_ := Aside0.mk (below_step (by repeat (first | (with_reducible first | exact HB.out | apply below_alloc | apply pw_below_drewN | apply below_drew1) | exact HB.out)) hb); have n1_ := Aside0.mk (hbox); have n2_ := Aside0.mk ((by rw [hg]; exact (below_size (by repeat (first | (with_reducible first | exact HB.out | apply below_alloc | apply pw_below_drewN | apply below_drew1) | exact HB.out))) : w.heap.size ≤ gb444)); have n3_ := Aside0.mk ((by rw [hg]; exact (below_size (by repeat (first | (with_reducible first | exact HB.out | apply below_alloc | apply pw_below_drewN | apply below_drew1) | exact HB.out))) : w.heap.size ≤ gb444)); clear HB; have HB := n0_; have BK444 := n1_; have GW444 := n2_; have GE444 := n3_; clear n0_ n1_ n2_ n3_; clear hb hbox hg; have hcz15_0 : w14.cell? ⟨gb444, 0, none⟩ = some (.int .i64 0) := (blk_cell BK444.out 0).trans rfl; have hcz15_1 : w14.cell? ⟨gb444, 1, none⟩ = some (.int .i64 0) := (blk_cell BK444.out 1).trans rfl; have hcz15_2 : w14.cell? ⟨gb444, 2, none⟩ = some (.int .i64 0) := (blk_cell BK444.out 2).trans rfl; have hcz15_3 : w14.cell? ⟨gb444, 3, none⟩ = some (.int .i64 0) := (blk_cell BK444.out 3).trans rfl; have hcz15_4 : w14.cell? ⟨gb444, 4, none⟩ = some (.int .i64 0) := (blk_cell BK444.out 4).trans rfl; have hcz15_5 : w14.cell? ⟨gb444, 5, none⟩ = some (.int .i64 0) := (blk_cell BK444.out 5).trans rfl; have hcz15_6 : w14.cell? ⟨gb444, 6, none⟩ = some (.int .i64 0) := (blk_cell BK444.out 6).trans rfl; have hcz15_7 : w14.cell? ⟨gb444, 7, none⟩ = some (.bool false) := (blk_cell BK444.out 7).trans rfl; have hfz15_0 := blk_frozen BK444.out 0; have hfz15_1 := blk_frozen BK444.out 1; have hfz15_2 := blk_frozen BK444.out 2; have hfz15_3 := blk_frozen BK444.out 3; have hfz15_4 := blk_frozen BK444.out 4; have hfz15_5 := blk_frozen BK444.out 5; have hfz15_6 := blk_frozen BK444.out 6; have hfz15_7 := blk_frozen BK444.out 7) | ((with_reducible refine gate_callee (f := 23) rfl ?_); refine goesL_ (some 23) rfl rfl Try.func23 (by kernel_rfl) rfl #[.agg #[.int .i64 t436, .int .i64 t437, .int .i64 t438, .int .i64 t439, .int .i64 t440, .int .i64 t441, .int .i64 t442, .bool t443]] rfl (by (try simp only [mA, mC, mN]); first | done | rfl | (simp only [List.length_drop, List.length_take]; rfl)) ?_; (with_reducible refine (impl_NoteBytes.calls kj2 t436 t437 t438 t439 t440 t441 t442 t443 t445 _ A7.out).mono ?_); rintro e w16 ⟨rfl, hb⟩; refine ⟨_, rfl, ?_⟩; have n0_ := Aside0.mk (blk_below (g := gb444) (o := .cells #[.int .i64 t436, .int .i64 t437, .int .i64 t438, .int .i64 t439, .int .i64 t440, .int .i64 t441, .int .i64 t442, .bool t443] 42 (0, 0)) (by (with_reducible repeat (first | refine blk_drewN ?_ _ | refine blk_drew ?_ | refine blk_alloc ?_ _)); refine blk_put (cs := #[.int .i64 t436, .int .i64 t437, .int .i64 t438, .int .i64 t439, .int .i64 t440, .int .i64 t441, .int .i64 t442, .bool false]) ?_ 7 _ (by first | rfl | (subst_vars; rfl)); (with_reducible repeat (first | refine blk_drewN ?_ _ | refine blk_drew ?_ | refine blk_alloc ?_ _)); refine blk_put (cs := #[.int .i64 t436, .int .i64 t437, .int .i64 t438, .int .i64 t439, .int .i64 t440, .int .i64 t441, .int .i64 0, .bool false]) ?_ 6 _ (by first | rfl | (subst_vars; rfl)); (with_reducible repeat (first | refine blk_drewN ?_ _ | refine blk_drew ?_ | refine blk_alloc ?_ _)); refine blk_put (cs := #[.int .i64 t436, .int .i64 t437, .int .i64 t438, .int .i64 t439, .int .i64 t440, .int .i64 0, .int .i64 0, .bool false]) ?_ 5 _ (by first | rfl | (subst_vars; rfl)); (with_reducible repeat (first | refine blk_drewN ?_ _ | refine blk_drew ?_ | refine blk_alloc ?_ _)); refine blk_put (cs := #[.int .i64 t436, .int .i64 t437, .int .i64 t438, .int .i64 t439, .int .i64 0, .int .i64 0, .int .i64 0, .bool false]) ?_ 4 _ (by first | rfl | (subst_vars; rfl)); (with_reducible repeat (first | refine blk_drewN ?_ _ | refine blk_drew ?_ | refine blk_alloc ?_ _)); refine blk_put (cs := #[.int .i64 t436, .int .i64 t437, .int .i64 t438, .int .i64 0, .int .i64 0, .int .i64 0, .int .i64 0, .bool false]) ?_ 3 _ (by first | rfl | (subst_vars; rfl)); (with_reducible repeat (first | refine blk_drewN ?_ _ | refine blk_drew ?_ | refine blk_alloc ?_ _)); refine blk_put (cs := #[.int .i64 t436, .int .i64 t437, .int .i64 0, .int .i64 0, .int .i64 0, .int .i64 0, .int .i64 0, .bool false]) ?_ 2 _ (by first | rfl | (subst_vars; rfl)); (with_reducible repeat (first | refine blk_drewN ?_ _ | refine blk_drew ?_ | refine blk_alloc ?_ _)); refine blk_put (cs := #[.int .i64 t436, .int .i64 0, .int .i64 0, .int .i64 0, .int .i64 0, .int .i64 0, .int .i64 0, .bool false]) ?_ 1 _ (by first | rfl | (subst_vars; rfl)); (with_reducible repeat (first | refine blk_drewN ?_ _ | refine blk_drew ?_ | refine blk_alloc ?_ _)); refine blk_put (cs := #[.int .i64 0, .int .i64 0, .int .i64 0, .int .i64 0, .int .i64 0, .int .i64 0, .int .i64 0, .bool false]) ?_ 0 _ (by first | rfl | (subst_vars; rfl)); (with_reducible repeat (first | refine blk_drewN ?_ _ | refine blk_drew ?_ | refine blk_alloc ?_ _)); exact BK444.out) hb); have n1_ := Aside0.mk (below_step (by repeat (first | (with_reducible first | exact HB.out | apply below_alloc | apply pw_below_drewN | apply below_drew1 | refine below_set ?_ GE444.out) | exact HB.out)) hb); clear BK444; clear HB; have BK444 := n0_; have HB := n1_; clear n0_ n1_; (try clear hb); (try clear hb2); (try clear hk); (try clear hi)) | ((with_reducible refine gate_callee (f := 24) rfl ?_); refine goesL_ (some 25) rfl rfl Try.func24 (by kernel_rfl) rfl #[.slice A1 l1.length c1] rfl (by (try simp only [mA, mC, mN]); first | done | rfl | (simp only [List.length_drop, List.length_take]; rfl)) ?_; (with_reducible refine (spec_DrawNoteRead.calls kj2 _ _ l1 t446 _ ?side1 ?side2 A8.out).mono ?_); (case side1 => repeat (first | exact (Kd.C_below HR1.out HB.out) | (with_reducible refine Kd.C_alloc ?_ _) | (with_reducible refine Kd.C_drewN ?_ _) | (with_reducible refine Kd.C_drew ?_))); (case side2 => exact HC1.out); rintro e w17 ⟨rfl, hb⟩; refine ⟨_, rfl, ?_⟩; have n0_ := Aside0.mk (blk_below (g := gb444) (o := .cells #[.int .i64 t436, .int .i64 t437, .int .i64 t438, .int .i64 t439, .int .i64 t440, .int .i64 t441, .int .i64 t442, .bool t443] 42 (0, 0)) (by (with_reducible repeat (first | refine blk_drewN ?_ _ | refine blk_drew ?_ | refine blk_alloc ?_ _)); exact BK444.out) hb); have n1_ := Aside0.mk (below_step (by repeat (first | (with_reducible first | exact HB.out | apply below_alloc | apply pw_below_drewN | apply below_drew1 | refine below_set ?_ GE444.out) | exact HB.out)) hb); clear BK444; clear HB; have BK444 := n0_; have HB := n1_; clear n0_ n1_; (try clear hb); (try clear hb2); (try clear hk); (try clear hi)) | ((with_reducible refine gate_callee (f := 25) rfl ?_); refine goesL_ (some 27) rfl rfl Try.func25 (by kernel_rfl) rfl #[.string t446] rfl (by (try simp only [mA, mC, mN]); first | done | rfl | (simp only [List.length_drop, List.length_take]; rfl)) ?_; (with_reducible refine (impl_NoteRead.calls kj2 t446 t447 t448 t449 t450 t451 t452 t453 t454 t455 _ A9.out).mono ?_); rintro e w18 ⟨rfl, hb⟩; refine ⟨_, rfl, ?_⟩; have n0_ := Aside0.mk (blk_below (g := gb444) (o := .cells #[.int .i64 t436, .int .i64 t437, .int .i64 t438, .int .i64 t439, .int .i64 t440, .int .i64 t441, .int .i64 t442, .bool t443] 42 (0, 0)) (by (with_reducible repeat (first | refine blk_drewN ?_ _ | refine blk_drew ?_ | refine blk_alloc ?_ _)); exact BK444.out) hb); have n1_ := Aside0.mk (below_step (by repeat (first | (with_reducible first | exact HB.out | apply below_alloc | apply pw_below_drewN | apply below_drew1 | refine below_set ?_ GE444.out) | exact HB.out)) hb); clear BK444; clear HB; have BK444 := n0_; have HB := n1_; clear n0_ n1_; (try clear hb); (try clear hb2); (try clear hk); (try clear hi)) | ((with_reducible refine gate_dst (N := 8) rfl ?_); (try (refine gate_guard (by rfl) ?_; dsimp only)); refine box_event ?hg (N := 8) ?hd (cs := #[.int .i64 0, .int .i64 0, .int .i64 0, .int .i64 0, .int .i64 0, .int .i64 0, .int .i64 0, .bool false, .int .i64 0]) (t := 46) ?hr ?_; (case hd => rfl); (case hg => rfl); (case hr => first | (go_simp; done) | (go_simp; rfl)); intro gb456 hg w19 hbox hb; have n0_ := Aside0.mk (blk_below (g := gb444) (o := .cells #[.int .i64 t436, .int .i64 t437, .int .i64 t438, .int .i64 t439, .int .i64 t440, .int .i64 t441, .int .i64 t442, .bool t443] 42 (0, 0)) (by (with_reducible repeat (first | refine blk_drewN ?_ _ | refine blk_drew ?_ | refine blk_alloc ?_ _)); exact BK444.out) hb); have n1_ := Aside0.mk (below_step (by repeat (first | (with_reducible first | exact HB.out | apply below_alloc | apply pw_below_drewN | apply below_drew1 | refine below_set ?_ GE444.out) | exact HB.out)) hb); have n2_ := Aside0.mk (hbox); have n3_ := Aside0.mk ((by rw [hg]; exact (below_size (by repeat (first | (with_reducible first | exact HB.out | apply below_alloc | apply pw_below_drewN | apply below_drew1 | refine below_set ?_ GE444.out) | exact HB.out))) : w.heap.size ≤ gb456)); have n4_ := Aside0.mk ((by rw [hg]; exact (below_size (by repeat (first | (with_reducible first | exact HB.out | apply below_alloc | apply pw_below_drewN | apply below_drew1 | refine below_set ?_ GE444.out) | exact HB.out))) : w.heap.size ≤ gb456)); have n5_ := Aside0.mk ((by rw [hg]; exact Nat.ne_of_lt (blk_lt (g := gb444) (o := .cells #[.int .i64 t436, .int .i64 t437, .int .i64 t438, .int .i64 t439, .int .i64 t440, .int .i64 t441, .int .i64 t442, .bool t443] 42 (0, 0)) (by (with_reducible repeat (first | refine blk_drewN ?_ _ | refine blk_drew ?_ | refine blk_alloc ?_ _)); exact BK444.out)) : gb444 ≠ gb456)); have n6_ := Aside0.mk ((by rw [hg]; exact Nat.ne_of_gt (blk_lt (g := gb444) (o := .cells #[.int .i64 t436, .int .i64 t437, .int .i64 t438, .int .i64 t439, .int .i64 t440, .int .i64 t441, .int .i64 t442, .bool t443] 42 (0, 0)) (by (with_reducible repeat (first | refine blk_drewN ?_ _ | refine blk_drew ?_ | refine blk_alloc ?_ _)); exact BK444.out)) : gb456 ≠ gb444)); clear BK444; clear HB; have BK444 := n0_; have HB := n1_; have BK456 := n2_; have GW456 := n3_; have GE456 := n4_; have NB444_456 := n5_; have NB456_444 := n6_; clear n0_ n1_ n2_ n3_ n4_ n5_ n6_; clear hb hbox hg; have hnb20 := NB456_444.out; have hnc20 := NB444_456.out; have hcz21_0 : w19.cell? ⟨gb456, 0, none⟩ = some (.int .i64 0) := (blk_cell BK456.out 0).trans rfl; have hcz21_1 : w19.cell? ⟨gb456, 1, none⟩ = some (.int .i64 0) := (blk_cell BK456.out 1).trans rfl; have hcz21_2 : w19.cell? ⟨gb456, 2, none⟩ = some (.int .i64 0) := (blk_cell BK456.out 2).trans rfl; have hcz21_3 : w19.cell? ⟨gb456, 3, none⟩ = some (.int .i64 0) := (blk_cell BK456.out 3).trans rfl; have hcz21_4 : w19.cell? ⟨gb456, 4, none⟩ = some (.int .i64 0) := (blk_cell BK456.out 4).trans rfl; have hcz21_5 : w19.cell? ⟨gb456, 5, none⟩ = some (.int .i64 0) := (blk_cell BK456.out 5).trans rfl; have hcz21_6 : w19.cell? ⟨gb456, 6, none⟩ = some (.int .i64 0) := (blk_cell BK456.out 6).trans rfl; have hcz21_7 : w19.cell? ⟨gb456, 7, none⟩ = some (.bool false) := (blk_cell BK456.out 7).trans rfl; have hcz21_8 : w19.cell? ⟨gb456, 8, none⟩ = some (.int .i64 0) := (blk_cell BK456.out 8).trans rfl; have hfz21_0 := blk_frozen BK456.out 0; have hfz21_1 := blk_frozen BK456.out 1; have hfz21_2 := blk_frozen BK456.out 2; have hfz21_3 := blk_frozen BK456.out 3; have hfz21_4 := blk_frozen BK456.out 4; have hfz21_5 := blk_frozen BK456.out 5; have hfz21_6 := blk_frozen BK456.out 6; have hfz21_7 := blk_frozen BK456.out 7; have hfz21_8 := blk_frozen BK456.out 8) | ((with_reducible refine gate_callee (f := 26) rfl ?_); refine goesL_ (some 29) rfl rfl Try.func26 (by kernel_rfl) rfl #[.slice A1 l1.length c1] rfl (by (try simp only [mA, mC, mN]); first | done | rfl | (simp only [List.length_drop, List.length_take]; rfl)) ?_; (with_reducible refine (spec_DrawDumpOf.calls kj2 _ _ l1 t457 _ ?side1 ?side2 A10.out).mono ?_); (case side1 => exact Kd.C_below HR1.out (by repeat (first | (with_reducible first | exact HB.out | apply below_alloc | apply pw_below_drewN | apply below_drew1 | refine below_set ?_ GE444.out | refine below_set ?_ GE456.out) | exact HB.out))); (case side2 => exact HC1.out); rintro e w22 ⟨v458, rfl, ho0, hb⟩; refine ⟨_, rfl, ?_⟩; have n0_ := Aside0.mk (Kd.R_lower ho0 (below_size (by repeat (first | (with_reducible first | exact HB.out | apply below_alloc | apply pw_below_drewN | apply below_drew1 | refine below_set ?_ GE444.out | refine below_set ?_ GE456.out) | exact HB.out)))); have n1_ := Aside0.mk (blk_below (g := gb444) (o := .cells #[.int .i64 t436, .int .i64 t437, .int .i64 t438, .int .i64 t439, .int .i64 t440, .int .i64 t441, .int .i64 t442, .bool t443] 42 (0, 0)) (by (with_reducible repeat (first | refine blk_drewN ?_ _ | refine blk_drew ?_ | refine blk_alloc ?_ _)); refine blk_far ?_ NB444_456.out _; (with_reducible repeat (first | refine blk_drewN ?_ _ | refine blk_drew ?_ | refine blk_alloc ?_ _)); refine blk_far ?_ NB444_456.out _; (with_reducible repeat (first | refine blk_drewN ?_ _ | refine blk_drew ?_ | refine blk_alloc ?_ _)); refine blk_far ?_ NB444_456.out _; (with_reducible repeat (first | refine blk_drewN ?_ _ | refine blk_drew ?_ | refine blk_alloc ?_ _)); refine blk_far ?_ NB444_456.out _; (with_reducible repeat (first | refine blk_drewN ?_ _ | refine blk_drew ?_ | refine blk_alloc ?_ _)); refine blk_far ?_ NB444_456.out _; (with_reducible repeat (first | refine blk_drewN ?_ _ | refine blk_drew ?_ | refine blk_alloc ?_ _)); refine blk_far ?_ NB444_456.out _; (with_reducible repeat (first | refine blk_drewN ?_ _ | refine blk_drew ?_ | refine blk_alloc ?_ _)); refine blk_far ?_ NB444_456.out _; (with_reducible repeat (first | refine blk_drewN ?_ _ | refine blk_drew ?_ | refine blk_alloc ?_ _)); refine blk_far ?_ NB444_456.out _; (with_reducible repeat (first | refine blk_drewN ?_ _ | refine blk_drew ?_ | refine blk_alloc ?_ _)); refine blk_far ?_ NB444_456.out _; (with_reducible repeat (first | refine blk_drewN ?_ _ | refine blk_drew ?_ | refine blk_alloc ?_ _)); exact BK444.out) hb); have n2_ := Aside0.mk (blk_below (g := gb456) (o := .cells #[.int .i64 t447, .int .i64 t448, .int .i64 t449, .int .i64 t450, .int .i64 t451, .int .i64 t452, .int .i64 t453, .bool t454, .int .i64 t455] 46 (0, 0)) (by (with_reducible repeat (first | refine blk_drewN ?_ _ | refine blk_drew ?_ | refine blk_alloc ?_ _)); refine blk_put (cs := #[.int .i64 t447, .int .i64 t448, .int .i64 t449, .int .i64 t450, .int .i64 t451, .int .i64 t452, .int .i64 t453, .bool t454, .int .i64 0]) ?_ 8 _ (by first | rfl | (subst_vars; rfl)); (with_reducible repeat (first | refine blk_drewN ?_ _ | refine blk_drew ?_ | refine blk_alloc ?_ _)); refine blk_put (cs := #[.int .i64 t447, .int .i64 t448, .int .i64 t449, .int .i64 t450, .int .i64 t451, .int .i64 t452, .int .i64 t453, .bool false, .int .i64 0]) ?_ 7 _ (by first | rfl | (subst_vars; rfl)); (with_reducible repeat (first | refine blk_drewN ?_ _ | refine blk_drew ?_ | refine blk_alloc ?_ _)); refine blk_put (cs := #[.int .i64 t447, .int .i64 t448, .int .i64 t449, .int .i64 t450, .int .i64 t451, .int .i64 t452, .int .i64 0, .bool false, .int .i64 0]) ?_ 6 _ (by first | rfl | (subst_vars; rfl)); (with_reducible repeat (first | refine blk_drewN ?_ _ | refine blk_drew ?_ | refine blk_alloc ?_ _)); refine blk_put (cs := #[.int .i64 t447, .int .i64 t448, .int .i64 t449, .int .i64 t450, .int .i64 t451, .int .i64 0, .int .i64 0, .bool false, .int .i64 0]) ?_ 5 _ (by first | rfl | (subst_vars; rfl)); (with_reducible repeat (first | refine blk_drewN ?_ _ | refine blk_drew ?_ | refine blk_alloc ?_ _)); refine blk_put (cs := #[.int .i64 t447, .int .i64 t448, .int .i64 t449, .int .i64 t450, .int .i64 0, .int .i64 0, .int .i64 0, .bool false, .int .i64 0]) ?_ 4 _ (by first | rfl | (subst_vars; rfl)); (with_reducible repeat (first | refine blk_drewN ?_ _ | refine blk_drew ?_ | refine blk_alloc ?_ _)); refine blk_put (cs := #[.int .i64 t447, .int .i64 t448, .int .i64 t449, .int .i64 0, .int .i64 0, .int .i64 0, .int .i64 0, .bool false, .int .i64 0]) ?_ 3 _ (by first | rfl | (subst_vars; rfl)); (with_reducible repeat (first | refine blk_drewN ?_ _ | refine blk_drew ?_ | refine blk_alloc ?_ _)); refine blk_put (cs := #[.int .i64 t447, .int .i64 t448, .int .i64 0, .int .i64 0, .int .i64 0, .int .i64 0, .int .i64 0, .bool false, .int .i64 0]) ?_ 2 _ (by first | rfl | (subst_vars; rfl)); (with_reducible repeat (first | refine blk_drewN ?_ _ | refine blk_drew ?_ | refine blk_alloc ?_ _)); refine blk_put (cs := #[.int .i64 t447, .int .i64 0, .int .i64 0, .int .i64 0, .int .i64 0, .int .i64 0, .int .i64 0, .bool false, .int .i64 0]) ?_ 1 _ (by first | rfl | (subst_vars; rfl)); (with_reducible repeat (first | refine blk_drewN ?_ _ | refine blk_drew ?_ | refine blk_alloc ?_ _)); refine blk_put (cs := #[.int .i64 0, .int .i64 0, .int .i64 0, .int .i64 0, .int .i64 0, .int .i64 0, .int .i64 0, .bool false, .int .i64 0]) ?_ 0 _ (by first | rfl | (subst_vars; rfl)); (with_reducible repeat (first | refine blk_drewN ?_ _ | refine blk_drew ?_ | refine blk_alloc ?_ _)); exact BK456.out) hb); have n3_ := Aside0.mk (below_step (by repeat (first | (with_reducible first | exact HB.out | apply below_alloc | apply pw_below_drewN | apply below_drew1 | refine below_set ?_ GE444.out | refine below_set ?_ GE456.out) | exact HB.out)) hb); clear BK444; clear BK456; clear HB; have HO459 := n0_; have BK444 := n1_; have BK456 := n2_; have HB := n3_; clear n0_ n1_ n2_ n3_; (try clear hb); (try clear hb2); (try clear hk); (try clear hi); (try clear ho0); obtain ⟨Ao23, co23, eo23⟩ := Kd.R_slice HO459.out; subst eo23) | ((with_reducible refine gate_callee (f := 27) rfl ?_); refine goesL_ (some 31) rfl rfl Try.func27 (by kernel_rfl) rfl #[.slice Ao23 t457.length co23] rfl (by (try simp only [mA, mC, mN]); first | done | rfl | (simp only [List.length_drop, List.length_take]; rfl)) ?_; (with_reducible refine (impl_DumpOf.calls kj2 _ _ t457 t460 _ ?side1 ?side2 A11.out).mono ?_); (case side1 => repeat (first | exact (Kd.R_reads' HO459.out).2.2 | (with_reducible refine Kd.C_alloc ?_ _) | (with_reducible refine Kd.C_drewN ?_ _) | (with_reducible refine Kd.C_drew ?_))); (case side2 => exact (Kd.R_reads' HO459.out).2.1); rintro e w24 ⟨v461, rfl, ho0, hb⟩; refine ⟨_, rfl, ?_⟩; have n0_ := Aside0.mk (Kd.R_below (by (with_reducible repeat (first | apply Kd.R_alloc | apply Kd.R_drewN | apply Kd.R_drew)); exact HO459.out) hb); have n1_ := Aside0.mk (Kd.R_lower ho0 (below_size (by repeat (first | (with_reducible first | exact HB.out | apply below_alloc | apply pw_below_drewN | apply below_drew1 | refine below_set ?_ GE444.out | refine below_set ?_ GE456.out) | exact HB.out)))); have n2_ := Aside0.mk (blk_below (g := gb444) (o := .cells #[.int .i64 t436, .int .i64 t437, .int .i64 t438, .int .i64 t439, .int .i64 t440, .int .i64 t441, .int .i64 t442, .bool t443] 42 (0, 0)) (by (with_reducible repeat (first | refine blk_drewN ?_ _ | refine blk_drew ?_ | refine blk_alloc ?_ _)); exact BK444.out) hb); have n3_ := Aside0.mk (blk_below (g := gb456) (o := .cells #[.int .i64 t447, .int .i64 t448, .int .i64 t449, .int .i64 t450, .int .i64 t451, .int .i64 t452, .int .i64 t453, .bool t454, .int .i64 t455] 46 (0, 0)) (by (with_reducible repeat (first | refine blk_drewN ?_ _ | refine blk_drew ?_ | refine blk_alloc ?_ _)); exact BK456.out) hb); have n4_ := Aside0.mk (below_step (by repeat (first | (with_reducible first | exact HB.out | apply below_alloc | apply pw_below_drewN | apply below_drew1 | refine below_set ?_ GE444.out | refine below_set ?_ GE456.out) | exact HB.out)) hb); clear HO459; clear BK444; clear BK456; clear HB; have HO459 := n0_; have HO462 := n1_; have BK444 := n2_; have BK456 := n3_; have HB := n4_; clear n0_ n1_ n2_ n3_ n4_; (try clear hb); (try clear hb2); (try clear hk); (try clear hi); (try clear ho0)))
    (try simp only [Act.put, sI, sZ, sS])
    go_cut [55] (fun v55 wc => ∃ (kq : Nat) (x55_11 : Bool), v55 = .bool x55_11 ∧ Aside0 (laws_FnNote.j1 kq t445 t446 t457 t460 x55_11 t436 t437 t438 t439 t440 t441 t442 t443 t447 t448 t449 t450 t451 t452 t453 t454 t455 = some r) ∧ Aside0 (kq ≤ kj2) ∧ Aside0 (Kd.R k24 24 wc w.heap.size (fun _ => True) (.slice Ao23 t457.length co23) t457) ∧ Aside0 (Kd.R Kd.string 9 wc w.heap.size (fun _ => True) v461 t460) ∧ Aside0 (wc.heap[gb444]? = some (.cells #[.int .i64 t436, .int .i64 t437, .int .i64 t438, .int .i64 t439, .int .i64 t440, .int .i64 t441, .int .i64 t442, .bool t443] 42 (0, 0))) ∧ Aside0 (wc.heap[gb456]? = some (.cells #[.int .i64 t447, .int .i64 t448, .int .i64 t449, .int .i64 t450, .int .i64 t451, .int .i64 t452, .int .i64 t453, .bool t454, .int .i64 t455] 46 (0, 0))) ∧ Aside0 (Below w.heap.size w wc))
    case first =>
     have H := HC12.out
     clear HC12
     replace H := Option.bind_eq_some_iff.mp H
     obtain ⟨t463, A250, H⟩ := H
     try dsimp only at H
     have A25 := Aside0.mk A250
     clear A250
     by_cases c26 : t445.toList = t463.toList
     ·rw [if_pos c26] at H
      have c26b0 : (t445.toList == t463.toList) = true := beq_iff_eq.mpr c26
      have c26b1 : (t445.toList != t463.toList) = false := bne_eq_false_iff_eq.mpr c26
      clear c26
      (first | rw [c26b0] | (simp only [i64_w, i32_w]; rw [c26b0]) | skip)
      replace H := Option.bind_eq_some_iff.mp H
      obtain ⟨⟨t464, t465, t466, t467, t468, t469, t470, t471, t472⟩, A270, H⟩ := H
      try dsimp only at H
      have A27 := Aside0.mk A270
      clear A270
      by_cases c28 : ((!(t447 == t464) || ((!(t448 == t465) || (!(t449 == t466) || (!(t450 == t467) || (!(t451 == t468) || (!(t452 == t469) || (!(t453 == t470) || (!(t454 == t471)))))))))) || (!(t455 == t472))) = true
      ·rw [if_pos c28] at H
       have c28b0 : ((!(t447 == t464) || ((!(t448 == t465) || (!(t449 == t466) || (!(t450 == t467) || (!(t451 == t468) || (!(t452 == t469) || (!(t453 == t470) || (!(t454 == t471)))))))))) || (!(t455 == t472))) = true := c28
       clear c28
       have H' := Aside0.mk H
       clear H
       try go_wp2
       have n0_ := Aside0.mk (Kd.R_drew HO459.out)
       have n1_ := Aside0.mk (Kd.R_drew HO462.out)
       have n2_ := Aside0.mk (blk_drew BK444.out)
       have n3_ := Aside0.mk (blk_drew BK456.out)
       have n4_ := Aside0.mk (below_drew1 HB.out)
       clear HO459
       clear HO462
       clear BK444
       clear BK456
       clear HB
       have HO459 := n0_
       have HO462 := n1_
       have BK444 := n2_
       have BK456 := n3_
       have HB := n4_
       clear n0_ n1_ n2_ n3_ n4_
       refine start_ (n := 24) (S := fun w' => w'.cell? ⟨gb444, 0, none⟩ = some (.int .i64 t436) ∧ w'.cell? ⟨gb444, 1, none⟩ = some (.int .i64 t437) ∧ w'.cell? ⟨gb444, 2, none⟩ = some (.int .i64 t438) ∧ w'.cell? ⟨gb444, 3, none⟩ = some (.int .i64 t439) ∧ w'.cell? ⟨gb444, 4, none⟩ = some (.int .i64 t440) ∧ w'.cell? ⟨gb444, 5, none⟩ = some (.int .i64 t441) ∧ w'.cell? ⟨gb444, 6, none⟩ = some (.int .i64 t442) ∧ w'.cell? ⟨gb444, 7, none⟩ = some (.bool t443) ∧ w'.cell? ⟨gb456, 0, none⟩ = some (.int .i64 t447) ∧ w'.cell? ⟨gb456, 1, none⟩ = some (.int .i64 t448) ∧ w'.cell? ⟨gb456, 2, none⟩ = some (.int .i64 t449) ∧ w'.cell? ⟨gb456, 3, none⟩ = some (.int .i64 t450) ∧ w'.cell? ⟨gb456, 4, none⟩ = some (.int .i64 t451) ∧ w'.cell? ⟨gb456, 5, none⟩ = some (.int .i64 t452) ∧ w'.cell? ⟨gb456, 6, none⟩ = some (.int .i64 t453) ∧ w'.cell? ⟨gb456, 7, none⟩ = some (.bool t454) ∧ w'.cell? ⟨gb456, 8, none⟩ = some (.int .i64 t455)) (ds := []) q0 (by kernel_rfl) rfl rfl ⟨(blk_cell BK444.out 0).trans rfl, (blk_cell BK444.out 1).trans rfl, (blk_cell BK444.out 2).trans rfl, (blk_cell BK444.out 3).trans rfl, (blk_cell BK444.out 4).trans rfl, (blk_cell BK444.out 5).trans rfl, (blk_cell BK444.out 6).trans rfl, (blk_cell BK444.out 7).trans rfl, (blk_cell BK456.out 0).trans rfl, (blk_cell BK456.out 1).trans rfl, (blk_cell BK456.out 2).trans rfl, (blk_cell BK456.out 3).trans rfl, (blk_cell BK456.out 4).trans rfl, (blk_cell BK456.out 5).trans rfl, (blk_cell BK456.out 6).trans rfl, (blk_cell BK456.out 7).trans rfl, (blk_cell BK456.out 8).trans rfl⟩ (fun hHeld => ?_); refine with_tabW laws_FnNote.tab9 laws_FnNote.bits9 (fun HT_ HW_ => ?_)
       generalize w24.drew = w29 at HO459 HO462 BK444 BK456 HB hHeld ⊢
       refine pure_ (i := 0) (N := some 32) (v := ?_) (a' := ?_) q1 rfl rfl (any_of HT_.out (by kernel_rfl)) (fun _ _ _ h => h) (Or.inl ⟨by rfl, ?_⟩) ?_ ?_
       rotate_left
       ·intro w'
        go_simp
        with_reducible rfl
       rotate_left
       ·simp only [Act.put, sI, sZ, sS, i64_w, i32_w]
        rfl
       refine take_ (i := 1) (N := some 33) (v := ?_) (a' := ?_) q2 rfl rfl (take_ofW HT_.out HW_.out (by kernel_rfl)) (fun _ _ _ h => h) (Or.inl ⟨by rfl, ?_⟩) hHeld ?_ ?_
       rotate_left
       ·rintro w' ⟨s0, s1, s2, s3, s4, s5, s6, s7, s8, s9, s10, s11, s12, s13, s14, s15, s16⟩
        go_simp
        with_reducible rfl
       rotate_left
       ·simp only [Act.put, sI, sZ, sS, i64_w, i32_w]
        rfl
       refine one_ (i := 2) (N := some 34) q3 rfl rfl (one_of HT_.out (by kernel_rfl)) (by decide) (fun K hK => ?_)
       refine goes_ Try.func28 (by kernel_rfl) rfl #[.agg #[.int .i64 t436, .int .i64 t437, .int .i64 t438, .int .i64 t439, .int .i64 t440, .int .i64 t441, .int .i64 t442, .bool t443]] (by rfl) rfl rfl (by (try simp only [mA, mC, mN]); first | done | rfl | (simp only [List.length_drop, List.length_take]; rfl)) ?_
       with_reducible refine (spec_NoteBytes.calls kj2 t436 t437 t438 t439 t440 t441 t442 t443 t463 _ A25.out).mono ?_
       rintro e w30 ⟨rfl, hb⟩
       refine ⟨_, rfl, ?_⟩
       have n0_ := Aside0.mk (Kd.R_below (by (with_reducible repeat (first | apply Kd.R_alloc | apply Kd.R_drewN | apply Kd.R_drew)); exact HO459.out) hb)
       have n1_ := Aside0.mk (Kd.R_below (by (with_reducible repeat (first | apply Kd.R_alloc | apply Kd.R_drewN | apply Kd.R_drew)); exact HO462.out) hb)
       have n2_ := Aside0.mk (blk_below (g := gb444) (by (with_reducible repeat (first | refine blk_drewN ?_ _ | refine blk_drew ?_ | refine blk_alloc ?_ _)); exact BK444.out) hb)
       have n3_ := Aside0.mk (blk_below (g := gb456) (by (with_reducible repeat (first | refine blk_drewN ?_ _ | refine blk_drew ?_ | refine blk_alloc ?_ _)); exact BK456.out) hb)
       have n4_ := Aside0.mk (below_step (by repeat (first | (with_reducible first | exact HB.out | apply below_alloc | apply pw_below_drewN | apply below_drew1 | refine below_set ?_ GE444.out | refine below_set ?_ GE456.out) | exact HB.out)) hb)
       clear HO459
       clear HO462
       clear BK444
       clear BK456
       clear HB
       have HO459 := n0_
       have HO462 := n1_
       have BK444 := n2_
       have BK456 := n3_
       have HB := n4_
       clear n0_ n1_ n2_ n3_ n4_
       (try clear hb)
       (try clear hb2)
       (try clear hk)
       (try clear hi)
       refine hK.out _ _ ⟨(blk_cell BK444.out 0).trans rfl, (blk_cell BK444.out 1).trans rfl, (blk_cell BK444.out 2).trans rfl, (blk_cell BK444.out 3).trans rfl, (blk_cell BK444.out 4).trans rfl, (blk_cell BK444.out 5).trans rfl, (blk_cell BK444.out 6).trans rfl, (blk_cell BK444.out 7).trans rfl, (blk_cell BK456.out 0).trans rfl, (blk_cell BK456.out 1).trans rfl, (blk_cell BK456.out 2).trans rfl, (blk_cell BK456.out 3).trans rfl, (blk_cell BK456.out 4).trans rfl, (blk_cell BK456.out 5).trans rfl, (blk_cell BK456.out 6).trans rfl, (blk_cell BK456.out 7).trans rfl, (blk_cell BK456.out 8).trans rfl⟩ (fun hHeld => ?_)
       clear hK K
       refine norm_ (a' := ?_) ?_ ?_
       rotate_left
       ·show Act.put _ (some 34) _ = _
        simp only [Act.put, sI, sZ, sS, i64_w, i32_w]
        rfl
       refine pure_ (i := 3) (N := some 35) (v := ?_) (a' := ?_) q4 rfl rfl (any_of HT_.out (by kernel_rfl)) (fun _ _ _ h => h) (Or.inl ⟨by rfl, ?_⟩) ?_ ?_
       rotate_left
       ·intro w'
        go_simp
        with_reducible rfl
       rotate_left
       ·simp only [Act.put, sI, sZ, sS, i64_w, i32_w]
        rfl
       refine pure_ (i := 4) (N := some 36) (v := ?_) (a' := ?_) q5 rfl rfl (any_of HT_.out (by kernel_rfl)) (fun _ _ _ h => h) (Or.inl ⟨by rfl, ?_⟩) ?_ ?_
       rotate_left
       ·intro w'
        go_simp
        with_reducible rfl
       rotate_left
       ·simp only [Act.put, sI, sZ, sS, i64_w, i32_w]
        rfl
       refine pure_ (i := 6) (N := some 38) (v := ?_) (a' := ?_) q6 rfl rfl (any_of HT_.out (by kernel_rfl)) (fun _ _ _ h => h) (Or.inl ⟨by rfl, ?_⟩) ?_ ?_
       rotate_left
       ·intro w'
        go_simp
        with_reducible rfl
       rotate_left
       ·simp only [Act.put, sI, sZ, sS, i64_w, i32_w]
        rfl
       refine take_ (i := 5) (N := some 37) (v := ?_) (a' := ?_) q7 rfl rfl (take_ofW HT_.out HW_.out (by kernel_rfl)) (fun _ _ _ h => h) (Or.inl ⟨by rfl, ?_⟩) hHeld ?_ ?_
       rotate_left
       ·rintro w' ⟨s0, s1, s2, s3, s4, s5, s6, s7, s8, s9, s10, s11, s12, s13, s14, s15, s16⟩
        go_simp
        with_reducible rfl
       rotate_left
       ·simp only [Act.put, sI, sZ, sS, i64_w, i32_w]
        rfl
       refine one_ (i := 7) (N := some 39) q8 rfl rfl (one_of HT_.out (by kernel_rfl)) (by decide) (fun K hK => ?_)
       refine goes_ Try.func29 (by kernel_rfl) rfl #[.string t446] (by rfl) rfl rfl (by (try simp only [mA, mC, mN]); first | done | rfl | (simp only [List.length_drop, List.length_take]; rfl)) ?_
       with_reducible refine (spec_NoteRead.calls kj2 t446 t464 t465 t466 t467 t468 t469 t470 t471 t472 _ A27.out).mono ?_
       rintro e w31 ⟨rfl, hb⟩
       refine ⟨_, rfl, ?_⟩
       have n0_ := Aside0.mk (Kd.R_below (by (with_reducible repeat (first | apply Kd.R_alloc | apply Kd.R_drewN | apply Kd.R_drew)); exact HO459.out) hb)
       have n1_ := Aside0.mk (Kd.R_below (by (with_reducible repeat (first | apply Kd.R_alloc | apply Kd.R_drewN | apply Kd.R_drew)); exact HO462.out) hb)
       have n2_ := Aside0.mk (blk_below (g := gb444) (by (with_reducible repeat (first | refine blk_drewN ?_ _ | refine blk_drew ?_ | refine blk_alloc ?_ _)); exact BK444.out) hb)
       have n3_ := Aside0.mk (blk_below (g := gb456) (by (with_reducible repeat (first | refine blk_drewN ?_ _ | refine blk_drew ?_ | refine blk_alloc ?_ _)); exact BK456.out) hb)
       have n4_ := Aside0.mk (below_step (by repeat (first | (with_reducible first | exact HB.out | apply below_alloc | apply pw_below_drewN | apply below_drew1 | refine below_set ?_ GE444.out | refine below_set ?_ GE456.out) | exact HB.out)) hb)
       clear HO459
       clear HO462
       clear BK444
       clear BK456
       clear HB
       have HO459 := n0_
       have HO462 := n1_
       have BK444 := n2_
       have BK456 := n3_
       have HB := n4_
       clear n0_ n1_ n2_ n3_ n4_
       (try clear hb)
       (try clear hb2)
       (try clear hk)
       (try clear hi)
       refine hK.out _ _ ⟨(blk_cell BK444.out 0).trans rfl, (blk_cell BK444.out 1).trans rfl, (blk_cell BK444.out 2).trans rfl, (blk_cell BK444.out 3).trans rfl, (blk_cell BK444.out 4).trans rfl, (blk_cell BK444.out 5).trans rfl, (blk_cell BK444.out 6).trans rfl, (blk_cell BK444.out 7).trans rfl, (blk_cell BK456.out 0).trans rfl, (blk_cell BK456.out 1).trans rfl, (blk_cell BK456.out 2).trans rfl, (blk_cell BK456.out 3).trans rfl, (blk_cell BK456.out 4).trans rfl, (blk_cell BK456.out 5).trans rfl, (blk_cell BK456.out 6).trans rfl, (blk_cell BK456.out 7).trans rfl, (blk_cell BK456.out 8).trans rfl⟩ (fun hHeld => ?_)
       clear hK K
       refine norm_ (a' := ?_) ?_ ?_
       rotate_left
       ·show Act.put _ (some 39) _ = _
        simp only [Act.put, sI, sZ, sS, i64_w, i32_w]
        rfl
       refine pure_ (i := 8) (N := some 40) (v := ?_) (a' := ?_) q9 rfl rfl (any_of HT_.out (by kernel_rfl)) (fun _ _ _ h => h) (Or.inl ⟨by rfl, ?_⟩) ?_ ?_
       rotate_left
       ·intro w'
        go_simp
        with_reducible rfl
       rotate_left
       ·simp only [Act.put, sI, sZ, sS, i64_w, i32_w]
        rfl
       refine pure_ (i := 9) (N := some 41) (v := ?_) (a' := ?_) q10 rfl rfl (any_of HT_.out (by kernel_rfl)) (fun _ _ _ h => h) (Or.inl ⟨by rfl, ?_⟩) ?_ ?_
       rotate_left
       ·intro w'
        go_simp
        with_reducible rfl
       rotate_left
       ·simp only [Act.put, sI, sZ, sS, i64_w, i32_w]
        rfl
       refine pure_ (i := 10) (N := some 42) (v := ?_) (a' := ?_) q11 rfl rfl (any_of HT_.out (by kernel_rfl)) (fun _ _ _ h => h) (Or.inl ⟨by rfl, ?_⟩) ?_ ?_
       rotate_left
       ·intro w'
        go_simp
        with_reducible rfl
       rotate_left
       ·simp only [Act.put, sI, sZ, sS, i64_w, i32_w]
        rfl
       refine pure_ (i := 11) (N := some 43) (v := undef) (a' := ?_) q12 rfl rfl (any_of HT_.out (by kernel_rfl)) (fun _ _ _ h => h) (Or.inr ⟨by rfl, rfl⟩) ?_ ?_
       rotate_left
       ·simp only [Act.put, sI, sZ, sS, i64_w, i32_w]
        rfl
       refine pure_ (i := 12) (N := some 44) (v := undef) (a' := ?_) q13 rfl rfl (any_of HT_.out (by kernel_rfl)) (fun _ _ _ h => h) (Or.inr ⟨by rfl, rfl⟩) ?_ ?_
       rotate_left
       ·simp only [Act.put, sI, sZ, sS, i64_w, i32_w]
        rfl
       refine pure_ (i := 13) (N := some 45) (v := undef) (a' := ?_) q14 rfl rfl (any_of HT_.out (by kernel_rfl)) (fun _ _ _ h => h) (Or.inr ⟨by rfl, rfl⟩) ?_ ?_
       rotate_left
       ·simp only [Act.put, sI, sZ, sS, i64_w, i32_w]
        rfl
       refine pure_ (i := 14) (N := some 46) (v := undef) (a' := ?_) q15 rfl rfl (any_of HT_.out (by kernel_rfl)) (fun _ _ _ h => h) (Or.inr ⟨by rfl, rfl⟩) ?_ ?_
       rotate_left
       ·simp only [Act.put, sI, sZ, sS, i64_w, i32_w]
        rfl
       refine pure_ (i := 15) (N := some 47) (v := undef) (a' := ?_) q16 rfl rfl (any_of HT_.out (by kernel_rfl)) (fun _ _ _ h => h) (Or.inr ⟨by rfl, rfl⟩) ?_ ?_
       rotate_left
       ·simp only [Act.put, sI, sZ, sS, i64_w, i32_w]
        rfl
       refine pure_ (i := 16) (N := some 48) (v := ?_) (a' := ?_) q17 rfl rfl (any_of HT_.out (by kernel_rfl)) (fun _ _ _ h => h) (Or.inl ⟨by rfl, ?_⟩) ?_ ?_
       rotate_left
       ·intro w'
        go_simp
        with_reducible rfl
       rotate_left
       ·simp only [Act.put, sI, sZ, sS, i64_w, i32_w]
        rfl
       refine pure_ (i := 17) (N := some 49) (v := ?_) (a' := ?_) q18 rfl rfl (any_of HT_.out (by kernel_rfl)) (fun _ _ _ h => h) (Or.inl ⟨by rfl, ?_⟩) ?_ ?_
       rotate_left
       ·intro w'
        go_simp
        with_reducible rfl
       rotate_left
       ·simp only [Act.put, sI, sZ, sS, i64_w, i32_w]
        rfl
       refine pure_ (i := 18) (N := some 50) (v := undef) (a' := ?_) q19 rfl rfl (any_of HT_.out (by kernel_rfl)) (fun _ _ _ h => h) (Or.inr ⟨by rfl, rfl⟩) ?_ ?_
       rotate_left
       ·simp only [Act.put, sI, sZ, sS, i64_w, i32_w]
        rfl
       refine pure_ (i := 19) (N := some 51) (v := undef) (a' := ?_) q20 rfl rfl (any_of HT_.out (by kernel_rfl)) (fun _ _ _ h => h) (Or.inr ⟨by rfl, rfl⟩) ?_ ?_
       rotate_left
       ·simp only [Act.put, sI, sZ, sS, i64_w, i32_w]
        rfl
       refine pure_ (i := 20) (N := some 52) (v := undef) (a' := ?_) q21 rfl rfl (any_of HT_.out (by kernel_rfl)) (fun _ _ _ h => h) (Or.inr ⟨by rfl, rfl⟩) ?_ ?_
       rotate_left
       ·simp only [Act.put, sI, sZ, sS, i64_w, i32_w]
        rfl
       refine pure_ (i := 21) (N := some 53) (v := undef) (a' := ?_) q22 rfl rfl (any_of HT_.out (by kernel_rfl)) (fun _ _ _ h => h) (Or.inr ⟨by rfl, rfl⟩) ?_ ?_
       rotate_left
       ·simp only [Act.put, sI, sZ, sS, i64_w, i32_w]
        rfl
       refine pure_ (i := 22) (N := some 54) (v := undef) (a' := ?_) q23 rfl rfl (any_of HT_.out (by kernel_rfl)) (fun _ _ _ h => h) (Or.inr ⟨by rfl, rfl⟩) ?_ ?_
       rotate_left
       ·simp only [Act.put, sI, sZ, sS, i64_w, i32_w]
        rfl
       refine pure_ (i := 23) (N := some 55) (v := ?_) (a' := ?_) q24 rfl rfl (any_of HT_.out (by kernel_rfl)) (fun _ _ _ h => h) (Or.inl ⟨by rfl, ?_⟩) ?_ ?_
       rotate_left
       ·intro w'
        go_simp
        with_reducible rfl
       rotate_left
       ·simp only [Act.put, sI, sZ, sS, i64_w, i32_w]
        rfl
       refine done_ (done_of HT_.out (by kernel_rfl)) ?_
       try go_wp2
       go_meet
       case rel => exact ⟨_, (true), (by first | rfl | (simp; done) | (simp [*]; done)), H', ⟨by have := HJ2.out; first | omega | exact Nat.le_refl _⟩, ⟨by (with_reducible repeat (first | apply Kd.R_alloc | apply Kd.R_drewN | apply Kd.R_drew)); exact HO459.out⟩, ⟨by (with_reducible repeat (first | apply Kd.R_alloc | apply Kd.R_drewN | apply Kd.R_drew)); exact HO462.out⟩, ⟨by (with_reducible repeat (first | refine blk_drewN ?_ _ | refine blk_drew ?_ | refine blk_alloc ?_ _)); exact BK444.out⟩, ⟨by (with_reducible repeat (first | refine blk_drewN ?_ _ | refine blk_drew ?_ | refine blk_alloc ?_ _)); exact BK456.out⟩, ⟨by repeat (first | (with_reducible first | exact HB.out | apply below_alloc | apply pw_below_drewN | apply below_drew1 | refine below_set ?_ GE444.out | refine below_set ?_ GE456.out) | exact HB.out)⟩⟩
      ·rw [if_neg c28] at H
       have c28b0 : ((!(t447 == t464) || ((!(t448 == t465) || (!(t449 == t466) || (!(t450 == t467) || (!(t451 == t468) || (!(t452 == t469) || (!(t453 == t470) || (!(t454 == t471)))))))))) || (!(t455 == t472))) = false := by simpa using c28
       clear c28
       replace H := Option.bind_eq_some_iff.mp H
       obtain ⟨t473, A320, H⟩ := H
       try dsimp only at H
       have A32 := Aside0.mk A320
       clear A320
       replace H := Option.bind_eq_some_iff.mp H
       obtain ⟨t476, A330, H⟩ := H
       try dsimp only at H
       have A33 := Aside0.mk A330
       clear A330
       by_cases c34 : t476 = true
       ·subst c34
        have H1 : ((impl_NoteRight.f kj2 t436 t437 t438 t439 t440 t441 t442 t443).bind fun t477 => ((spec_NoteRight.f kj2 t436 t437 t438 t439 t440 t441 t442 t443).bind fun t478 => (laws_FnNote.j1 kj2 t445 t446 t457 t460 (t477 != t478) t436 t437 t438 t439 t440 t441 t442 t443 t447 t448 t449 t450 t451 t452 t453 t454 t455))) = some r := by rw [if_pos rfl] at H; exact H
        clear H
        have H := H1
        clear H1
        replace H := Option.bind_eq_some_iff.mp H
        obtain ⟨t477, A350, H⟩ := H
        try dsimp only at H
        have A35 := Aside0.mk A350
        clear A350
        replace H := Option.bind_eq_some_iff.mp H
        obtain ⟨t478, A360, H⟩ := H
        try dsimp only at H
        have A36 := Aside0.mk A360
        clear A360
        have H' := Aside0.mk H
        clear H
        try go_wp2
        have n0_ := Aside0.mk (Kd.R_drew HO459.out)
        have n1_ := Aside0.mk (Kd.R_drew HO462.out)
        have n2_ := Aside0.mk (blk_drew BK444.out)
        have n3_ := Aside0.mk (blk_drew BK456.out)
        have n4_ := Aside0.mk (below_drew1 HB.out)
        clear HO459
        clear HO462
        clear BK444
        clear BK456
        clear HB
        have HO459 := n0_
        have HO462 := n1_
        have BK444 := n2_
        have BK456 := n3_
        have HB := n4_
        clear n0_ n1_ n2_ n3_ n4_
        refine start_ (n := 24) (S := fun w' => w'.cell? ⟨gb444, 0, none⟩ = some (.int .i64 t436) ∧ w'.cell? ⟨gb444, 1, none⟩ = some (.int .i64 t437) ∧ w'.cell? ⟨gb444, 2, none⟩ = some (.int .i64 t438) ∧ w'.cell? ⟨gb444, 3, none⟩ = some (.int .i64 t439) ∧ w'.cell? ⟨gb444, 4, none⟩ = some (.int .i64 t440) ∧ w'.cell? ⟨gb444, 5, none⟩ = some (.int .i64 t441) ∧ w'.cell? ⟨gb444, 6, none⟩ = some (.int .i64 t442) ∧ w'.cell? ⟨gb444, 7, none⟩ = some (.bool t443) ∧ w'.cell? ⟨gb456, 0, none⟩ = some (.int .i64 t447) ∧ w'.cell? ⟨gb456, 1, none⟩ = some (.int .i64 t448) ∧ w'.cell? ⟨gb456, 2, none⟩ = some (.int .i64 t449) ∧ w'.cell? ⟨gb456, 3, none⟩ = some (.int .i64 t450) ∧ w'.cell? ⟨gb456, 4, none⟩ = some (.int .i64 t451) ∧ w'.cell? ⟨gb456, 5, none⟩ = some (.int .i64 t452) ∧ w'.cell? ⟨gb456, 6, none⟩ = some (.int .i64 t453) ∧ w'.cell? ⟨gb456, 7, none⟩ = some (.bool t454) ∧ w'.cell? ⟨gb456, 8, none⟩ = some (.int .i64 t455)) (ds := []) q0 (by kernel_rfl) rfl rfl ⟨(blk_cell BK444.out 0).trans rfl, (blk_cell BK444.out 1).trans rfl, (blk_cell BK444.out 2).trans rfl, (blk_cell BK444.out 3).trans rfl, (blk_cell BK444.out 4).trans rfl, (blk_cell BK444.out 5).trans rfl, (blk_cell BK444.out 6).trans rfl, (blk_cell BK444.out 7).trans rfl, (blk_cell BK456.out 0).trans rfl, (blk_cell BK456.out 1).trans rfl, (blk_cell BK456.out 2).trans rfl, (blk_cell BK456.out 3).trans rfl, (blk_cell BK456.out 4).trans rfl, (blk_cell BK456.out 5).trans rfl, (blk_cell BK456.out 6).trans rfl, (blk_cell BK456.out 7).trans rfl, (blk_cell BK456.out 8).trans rfl⟩ (fun hHeld => ?_); refine with_tabW laws_FnNote.tab9 laws_FnNote.bits9 (fun HT_ HW_ => ?_)
        generalize w24.drew = w37 at HO459 HO462 BK444 BK456 HB hHeld ⊢
        refine pure_ (i := 0) (N := some 32) (v := ?_) (a' := ?_) q1 rfl rfl (any_of HT_.out (by kernel_rfl)) (fun _ _ _ h => h) (Or.inl ⟨by rfl, ?_⟩) ?_ ?_
        rotate_left
        ·intro w'
         go_simp
         with_reducible rfl
        rotate_left
        ·simp only [Act.put, sI, sZ, sS, i64_w, i32_w]
         rfl
        refine take_ (i := 1) (N := some 33) (v := ?_) (a' := ?_) q2 rfl rfl (take_ofW HT_.out HW_.out (by kernel_rfl)) (fun _ _ _ h => h) (Or.inl ⟨by rfl, ?_⟩) hHeld ?_ ?_
        rotate_left
        ·rintro w' ⟨s0, s1, s2, s3, s4, s5, s6, s7, s8, s9, s10, s11, s12, s13, s14, s15, s16⟩
         go_simp
         with_reducible rfl
        rotate_left
        ·simp only [Act.put, sI, sZ, sS, i64_w, i32_w]
         rfl
        refine one_ (i := 2) (N := some 34) q3 rfl rfl (one_of HT_.out (by kernel_rfl)) (by decide) (fun K hK => ?_)
        refine goes_ Try.func28 (by kernel_rfl) rfl #[.agg #[.int .i64 t436, .int .i64 t437, .int .i64 t438, .int .i64 t439, .int .i64 t440, .int .i64 t441, .int .i64 t442, .bool t443]] (by rfl) rfl rfl (by (try simp only [mA, mC, mN]); first | done | rfl | (simp only [List.length_drop, List.length_take]; rfl)) ?_
        with_reducible refine (spec_NoteBytes.calls kj2 t436 t437 t438 t439 t440 t441 t442 t443 t463 _ A25.out).mono ?_
        rintro e w38 ⟨rfl, hb⟩
        refine ⟨_, rfl, ?_⟩
        have n0_ := Aside0.mk (Kd.R_below (by (with_reducible repeat (first | apply Kd.R_alloc | apply Kd.R_drewN | apply Kd.R_drew)); exact HO459.out) hb)
        have n1_ := Aside0.mk (Kd.R_below (by (with_reducible repeat (first | apply Kd.R_alloc | apply Kd.R_drewN | apply Kd.R_drew)); exact HO462.out) hb)
        have n2_ := Aside0.mk (blk_below (g := gb444) (by (with_reducible repeat (first | refine blk_drewN ?_ _ | refine blk_drew ?_ | refine blk_alloc ?_ _)); exact BK444.out) hb)
        have n3_ := Aside0.mk (blk_below (g := gb456) (by (with_reducible repeat (first | refine blk_drewN ?_ _ | refine blk_drew ?_ | refine blk_alloc ?_ _)); exact BK456.out) hb)
        have n4_ := Aside0.mk (below_step (by repeat (first | (with_reducible first | exact HB.out | apply below_alloc | apply pw_below_drewN | apply below_drew1 | refine below_set ?_ GE444.out | refine below_set ?_ GE456.out) | exact HB.out)) hb)
        clear HO459
        clear HO462
        clear BK444
        clear BK456
        clear HB
        have HO459 := n0_
        have HO462 := n1_
        have BK444 := n2_
        have BK456 := n3_
        have HB := n4_
        clear n0_ n1_ n2_ n3_ n4_
        (try clear hb)
        (try clear hb2)
        (try clear hk)
        (try clear hi)
        refine hK.out _ _ ⟨(blk_cell BK444.out 0).trans rfl, (blk_cell BK444.out 1).trans rfl, (blk_cell BK444.out 2).trans rfl, (blk_cell BK444.out 3).trans rfl, (blk_cell BK444.out 4).trans rfl, (blk_cell BK444.out 5).trans rfl, (blk_cell BK444.out 6).trans rfl, (blk_cell BK444.out 7).trans rfl, (blk_cell BK456.out 0).trans rfl, (blk_cell BK456.out 1).trans rfl, (blk_cell BK456.out 2).trans rfl, (blk_cell BK456.out 3).trans rfl, (blk_cell BK456.out 4).trans rfl, (blk_cell BK456.out 5).trans rfl, (blk_cell BK456.out 6).trans rfl, (blk_cell BK456.out 7).trans rfl, (blk_cell BK456.out 8).trans rfl⟩ (fun hHeld => ?_)
        clear hK K
        refine norm_ (a' := ?_) ?_ ?_
        rotate_left
        ·show Act.put _ (some 34) _ = _
         simp only [Act.put, sI, sZ, sS, i64_w, i32_w]
         rfl
        refine pure_ (i := 3) (N := some 35) (v := ?_) (a' := ?_) q4 rfl rfl (any_of HT_.out (by kernel_rfl)) (fun _ _ _ h => h) (Or.inl ⟨by rfl, ?_⟩) ?_ ?_
        rotate_left
        ·intro w'
         go_simp
         with_reducible rfl
        rotate_left
        ·simp only [Act.put, sI, sZ, sS, i64_w, i32_w]
         rfl
        refine pure_ (i := 4) (N := some 36) (v := ?_) (a' := ?_) q5 rfl rfl (any_of HT_.out (by kernel_rfl)) (fun _ _ _ h => h) (Or.inl ⟨by rfl, ?_⟩) ?_ ?_
        rotate_left
        ·intro w'
         go_simp
         with_reducible rfl
        rotate_left
        ·simp only [Act.put, sI, sZ, sS, i64_w, i32_w]
         rfl
        refine pure_ (i := 6) (N := some 38) (v := ?_) (a' := ?_) q6 rfl rfl (any_of HT_.out (by kernel_rfl)) (fun _ _ _ h => h) (Or.inl ⟨by rfl, ?_⟩) ?_ ?_
        rotate_left
        ·intro w'
         go_simp
         with_reducible rfl
        rotate_left
        ·simp only [Act.put, sI, sZ, sS, i64_w, i32_w]
         rfl
        refine take_ (i := 5) (N := some 37) (v := ?_) (a' := ?_) q7 rfl rfl (take_ofW HT_.out HW_.out (by kernel_rfl)) (fun _ _ _ h => h) (Or.inl ⟨by rfl, ?_⟩) hHeld ?_ ?_
        rotate_left
        ·rintro w' ⟨s0, s1, s2, s3, s4, s5, s6, s7, s8, s9, s10, s11, s12, s13, s14, s15, s16⟩
         go_simp
         with_reducible rfl
        rotate_left
        ·simp only [Act.put, sI, sZ, sS, i64_w, i32_w]
         rfl
        refine one_ (i := 7) (N := some 39) q8 rfl rfl (one_of HT_.out (by kernel_rfl)) (by decide) (fun K hK => ?_)
        refine goes_ Try.func29 (by kernel_rfl) rfl #[.string t446] (by rfl) rfl rfl (by (try simp only [mA, mC, mN]); first | done | rfl | (simp only [List.length_drop, List.length_take]; rfl)) ?_
        with_reducible refine (spec_NoteRead.calls kj2 t446 t464 t465 t466 t467 t468 t469 t470 t471 t472 _ A27.out).mono ?_
        rintro e w39 ⟨rfl, hb⟩
        refine ⟨_, rfl, ?_⟩
        have n0_ := Aside0.mk (Kd.R_below (by (with_reducible repeat (first | apply Kd.R_alloc | apply Kd.R_drewN | apply Kd.R_drew)); exact HO459.out) hb)
        have n1_ := Aside0.mk (Kd.R_below (by (with_reducible repeat (first | apply Kd.R_alloc | apply Kd.R_drewN | apply Kd.R_drew)); exact HO462.out) hb)
        have n2_ := Aside0.mk (blk_below (g := gb444) (by (with_reducible repeat (first | refine blk_drewN ?_ _ | refine blk_drew ?_ | refine blk_alloc ?_ _)); exact BK444.out) hb)
        have n3_ := Aside0.mk (blk_below (g := gb456) (by (with_reducible repeat (first | refine blk_drewN ?_ _ | refine blk_drew ?_ | refine blk_alloc ?_ _)); exact BK456.out) hb)
        have n4_ := Aside0.mk (below_step (by repeat (first | (with_reducible first | exact HB.out | apply below_alloc | apply pw_below_drewN | apply below_drew1 | refine below_set ?_ GE444.out | refine below_set ?_ GE456.out) | exact HB.out)) hb)
        clear HO459
        clear HO462
        clear BK444
        clear BK456
        clear HB
        have HO459 := n0_
        have HO462 := n1_
        have BK444 := n2_
        have BK456 := n3_
        have HB := n4_
        clear n0_ n1_ n2_ n3_ n4_
        (try clear hb)
        (try clear hb2)
        (try clear hk)
        (try clear hi)
        refine hK.out _ _ ⟨(blk_cell BK444.out 0).trans rfl, (blk_cell BK444.out 1).trans rfl, (blk_cell BK444.out 2).trans rfl, (blk_cell BK444.out 3).trans rfl, (blk_cell BK444.out 4).trans rfl, (blk_cell BK444.out 5).trans rfl, (blk_cell BK444.out 6).trans rfl, (blk_cell BK444.out 7).trans rfl, (blk_cell BK456.out 0).trans rfl, (blk_cell BK456.out 1).trans rfl, (blk_cell BK456.out 2).trans rfl, (blk_cell BK456.out 3).trans rfl, (blk_cell BK456.out 4).trans rfl, (blk_cell BK456.out 5).trans rfl, (blk_cell BK456.out 6).trans rfl, (blk_cell BK456.out 7).trans rfl, (blk_cell BK456.out 8).trans rfl⟩ (fun hHeld => ?_)
        clear hK K
        refine norm_ (a' := ?_) ?_ ?_
        rotate_left
        ·show Act.put _ (some 39) _ = _
         simp only [Act.put, sI, sZ, sS, i64_w, i32_w]
         rfl
        refine pure_ (i := 8) (N := some 40) (v := ?_) (a' := ?_) q9 rfl rfl (any_of HT_.out (by kernel_rfl)) (fun _ _ _ h => h) (Or.inl ⟨by rfl, ?_⟩) ?_ ?_
        rotate_left
        ·intro w'
         go_simp
         with_reducible rfl
        rotate_left
        ·simp only [Act.put, sI, sZ, sS, i64_w, i32_w]
         rfl
        refine pure_ (i := 9) (N := some 41) (v := ?_) (a' := ?_) q10 rfl rfl (any_of HT_.out (by kernel_rfl)) (fun _ _ _ h => h) (Or.inl ⟨by rfl, ?_⟩) ?_ ?_
        rotate_left
        ·intro w'
         go_simp
         with_reducible rfl
        rotate_left
        ·simp only [Act.put, sI, sZ, sS, i64_w, i32_w]
         rfl
        refine pure_ (i := 10) (N := some 42) (v := ?_) (a' := ?_) q11 rfl rfl (any_of HT_.out (by kernel_rfl)) (fun _ _ _ h => h) (Or.inl ⟨by rfl, ?_⟩) ?_ ?_
        rotate_left
        ·intro w'
         go_simp
         with_reducible rfl
        rotate_left
        ·simp only [Act.put, sI, sZ, sS, i64_w, i32_w]
         rfl
        refine pure_ (i := 11) (N := some 43) (v := ?_) (a' := ?_) q12 rfl rfl (any_of HT_.out (by kernel_rfl)) (fun _ _ _ h => h) (Or.inl ⟨by rfl, ?_⟩) ?_ ?_
        rotate_left
        ·intro w'
         go_simp
         with_reducible rfl
        rotate_left
        ·simp only [Act.put, sI, sZ, sS, i64_w, i32_w]
         rfl
        refine pure_ (i := 12) (N := some 44) (v := ?_) (a' := ?_) q13 rfl rfl (any_of HT_.out (by kernel_rfl)) (fun _ _ _ h => h) (Or.inl ⟨by rfl, ?_⟩) ?_ ?_
        rotate_left
        ·intro w'
         go_simp
         with_reducible rfl
        rotate_left
        ·simp only [Act.put, sI, sZ, sS, i64_w, i32_w]
         rfl
        refine one_ (i := 13) (N := some 45) q14 rfl rfl (one_of HT_.out (by kernel_rfl)) (by decide) (fun K hK => ?_)
        refine goes_ Try.func31 (by kernel_rfl) rfl #[.slice Ao23 t457.length co23] (by rfl) rfl rfl (by (try simp only [mA, mC, mN]); first | done | rfl | (simp only [List.length_drop, List.length_take]; rfl)) ?_
        with_reducible refine (spec_DumpOf.calls kj2 _ _ t457 t473 _ ?side1 ?side2 A32.out).mono ?_
        (case side1 => repeat (first | exact (Kd.R_reads' HO459.out).2.2 | (with_reducible refine Kd.C_alloc ?_ _) | (with_reducible refine Kd.C_drewN ?_ _) | (with_reducible refine Kd.C_drew ?_)))
        (case side2 => exact (Kd.R_reads' HO459.out).2.1)
        rintro e w40 ⟨v474, rfl, ho0, hb⟩
        refine ⟨_, rfl, ?_⟩
        have n0_ := Aside0.mk (Kd.R_below (by (with_reducible repeat (first | apply Kd.R_alloc | apply Kd.R_drewN | apply Kd.R_drew)); exact HO459.out) hb)
        have n1_ := Aside0.mk (Kd.R_elder' (by (with_reducible repeat (first | apply Kd.R_alloc | apply Kd.R_drewN | apply Kd.R_drew)); exact HO462.out) (Kd.R_base ho0) hb)
        have n2_ := Aside0.mk (Kd.R_lower (Kd.R_new' ho0 (Kd.R_lt (by (with_reducible repeat (first | apply Kd.R_alloc | apply Kd.R_drewN | apply Kd.R_drew)); exact HO462.out))) (below_size (by repeat (first | (with_reducible first | exact HB.out | apply below_alloc | apply pw_below_drewN | apply below_drew1 | refine below_set ?_ GE444.out | refine below_set ?_ GE456.out) | exact HB.out))))
        have n3_ := Aside0.mk (blk_below (g := gb444) (by (with_reducible repeat (first | refine blk_drewN ?_ _ | refine blk_drew ?_ | refine blk_alloc ?_ _)); exact BK444.out) hb)
        have n4_ := Aside0.mk (blk_below (g := gb456) (by (with_reducible repeat (first | refine blk_drewN ?_ _ | refine blk_drew ?_ | refine blk_alloc ?_ _)); exact BK456.out) hb)
        have n5_ := Aside0.mk (below_step (by repeat (first | (with_reducible first | exact HB.out | apply below_alloc | apply pw_below_drewN | apply below_drew1 | refine below_set ?_ GE444.out | refine below_set ?_ GE456.out) | exact HB.out)) hb)
        clear HO459
        clear HO462
        clear BK444
        clear BK456
        clear HB
        have HO459 := n0_
        have HO462 := n1_
        have HO475 := n2_
        have BK444 := n3_
        have BK456 := n4_
        have HB := n5_
        clear n0_ n1_ n2_ n3_ n4_ n5_
        (try clear hb)
        (try clear hb2)
        (try clear hk)
        (try clear hi)
        (try clear ho0)
        obtain ⟨Ao41, co41, eo41⟩ := Kd.R_slice HO462.out
        (first | subst eo41 | (injection eo41 with f1_ f2_ f3_; have f4_ := f1_.symm; have f5_ := f3_.symm; clear f1_ f2_ f3_; subst f4_; subst f5_))
        obtain ⟨Ao42, co42, eo42⟩ := Kd.R_slice HO475.out
        (first | subst eo42 | (injection eo42 with f1_ f2_ f3_; have f4_ := f1_.symm; have f5_ := f3_.symm; clear f1_ f2_ f3_; subst f4_; subst f5_))
        refine hK.out _ _ ⟨(blk_cell BK444.out 0).trans rfl, (blk_cell BK444.out 1).trans rfl, (blk_cell BK444.out 2).trans rfl, (blk_cell BK444.out 3).trans rfl, (blk_cell BK444.out 4).trans rfl, (blk_cell BK444.out 5).trans rfl, (blk_cell BK444.out 6).trans rfl, (blk_cell BK444.out 7).trans rfl, (blk_cell BK456.out 0).trans rfl, (blk_cell BK456.out 1).trans rfl, (blk_cell BK456.out 2).trans rfl, (blk_cell BK456.out 3).trans rfl, (blk_cell BK456.out 4).trans rfl, (blk_cell BK456.out 5).trans rfl, (blk_cell BK456.out 6).trans rfl, (blk_cell BK456.out 7).trans rfl, (blk_cell BK456.out 8).trans rfl⟩ (fun hHeld => ?_)
        clear hK K
        refine norm_ (a' := ?_) ?_ ?_
        rotate_left
        ·show Act.put _ (some 45) _ = _
         simp only [Act.put, sI, sZ, sS, i64_w, i32_w]
         rfl
        refine one_ (i := 14) (N := some 46) q15 rfl rfl (one_of HT_.out (by kernel_rfl)) (by decide) (fun K hK => ?_)
        refine goes_ Try.func30 (by kernel_rfl) rfl #[.slice Ao41 t460.length co41, .slice Ao42 t473.length co42] (by rfl) rfl rfl (by (try simp only [mA, mC, mN]); first | done | rfl | (simp only [List.length_drop, List.length_take]; rfl)) ?_
        with_reducible refine (laws_lwTexts.calls kj2 _ _ t460 _ _ t473 true _ ?side1 ?side2 ?side3 ?side4 A33.out).mono ?_
        (case side1 => repeat (first | exact (Kd.R_reads' HO462.out).2.2 | (with_reducible refine Kd.C_alloc ?_ _) | (with_reducible refine Kd.C_drewN ?_ _) | (with_reducible refine Kd.C_drew ?_)))
        (case side2 => exact (Kd.R_reads' HO462.out).2.1)
        (case side3 => repeat (first | exact (Kd.R_reads' HO475.out).2.2 | (with_reducible refine Kd.C_alloc ?_ _) | (with_reducible refine Kd.C_drewN ?_ _) | (with_reducible refine Kd.C_drew ?_)))
        (case side4 => exact (Kd.R_reads' HO475.out).2.1)
        rintro e w' ⟨rfl, ⟨nd, rfl⟩⟩
        refine ⟨_, rfl, ?_⟩
        refine hK.out _ _ ⟨(blk_cell BK444.out 0).trans rfl, (blk_cell BK444.out 1).trans rfl, (blk_cell BK444.out 2).trans rfl, (blk_cell BK444.out 3).trans rfl, (blk_cell BK444.out 4).trans rfl, (blk_cell BK444.out 5).trans rfl, (blk_cell BK444.out 6).trans rfl, (blk_cell BK444.out 7).trans rfl, (blk_cell BK456.out 0).trans rfl, (blk_cell BK456.out 1).trans rfl, (blk_cell BK456.out 2).trans rfl, (blk_cell BK456.out 3).trans rfl, (blk_cell BK456.out 4).trans rfl, (blk_cell BK456.out 5).trans rfl, (blk_cell BK456.out 6).trans rfl, (blk_cell BK456.out 7).trans rfl, (blk_cell BK456.out 8).trans rfl⟩ (fun hHeld => ?_)
        clear hK K
        refine norm_ (a' := ?_) ?_ ?_
        rotate_left
        ·show Act.put _ (some 46) _ = _
         simp only [Act.put, sI, sZ, sS, i64_w, i32_w]
         rfl
        refine pure_ (i := 15) (N := some 47) (v := ?_) (a' := ?_) q16 rfl rfl (any_of HT_.out (by kernel_rfl)) (fun _ _ _ h => h) (Or.inl ⟨by rfl, ?_⟩) ?_ ?_
        rotate_left
        ·intro w'
         go_simp
         with_reducible rfl
        rotate_left
        ·simp only [Act.put, sI, sZ, sS, i64_w, i32_w]
         rfl
        refine pure_ (i := 16) (N := some 48) (v := ?_) (a' := ?_) q17 rfl rfl (any_of HT_.out (by kernel_rfl)) (fun _ _ _ h => h) (Or.inl ⟨by rfl, ?_⟩) ?_ ?_
        rotate_left
        ·intro w'
         go_simp
         with_reducible rfl
        rotate_left
        ·simp only [Act.put, sI, sZ, sS, i64_w, i32_w]
         rfl
        refine pure_ (i := 17) (N := some 49) (v := ?_) (a' := ?_) q18 rfl rfl (any_of HT_.out (by kernel_rfl)) (fun _ _ _ h => h) (Or.inl ⟨by rfl, ?_⟩) ?_ ?_
        rotate_left
        ·intro w'
         go_simp
         with_reducible rfl
        rotate_left
        ·simp only [Act.put, sI, sZ, sS, i64_w, i32_w]
         rfl
        refine take_ (i := 18) (N := some 50) (v := ?_) (a' := ?_) q19 rfl rfl (take_ofW HT_.out HW_.out (by kernel_rfl)) (fun _ _ _ h => h) (Or.inl ⟨by rfl, ?_⟩) hHeld ?_ ?_
        rotate_left
        ·rintro w' ⟨s0, s1, s2, s3, s4, s5, s6, s7, s8, s9, s10, s11, s12, s13, s14, s15, s16⟩
         go_simp
         with_reducible rfl
        rotate_left
        ·simp only [Act.put, sI, sZ, sS, i64_w, i32_w]
         rfl
        refine take_ (i := 20) (N := some 52) (v := ?_) (a' := ?_) #[true, true, true, true, true, true, true, true, true, true, true, true, true, true, true, true, true, true, true, false, true, false, false, false] rfl rfl (take_ofW HT_.out HW_.out (by kernel_rfl)) (fun _ _ _ h => h) (Or.inl ⟨by rfl, ?_⟩) hHeld ?_ ?_
        rotate_left
        ·rintro w' ⟨s0, s1, s2, s3, s4, s5, s6, s7, s8, s9, s10, s11, s12, s13, s14, s15, s16⟩
         go_simp
         with_reducible rfl
        rotate_left
        ·simp only [Act.put, sI, sZ, sS, i64_w, i32_w]
         rfl
        refine one_ (i := 19) (N := some 51) q21 rfl rfl (one_of HT_.out (by kernel_rfl)) (by decide) (fun K hK => ?_)
        refine goes_ Try.func32 (by kernel_rfl) rfl #[.agg #[.int .i64 t436, .int .i64 t437, .int .i64 t438, .int .i64 t439, .int .i64 t440, .int .i64 t441, .int .i64 t442, .bool t443]] (by rfl) rfl rfl (by (try simp only [mA, mC, mN]); first | done | rfl | (simp only [List.length_drop, List.length_take]; rfl)) ?_
        with_reducible refine (impl_NoteRight.calls kj2 t436 t437 t438 t439 t440 t441 t442 t443 t477 _ A35.out).mono ?_
        rintro e w43 ⟨rfl, hb⟩
        refine ⟨_, rfl, ?_⟩
        have n0_ := Aside0.mk (Kd.R_below (by (with_reducible repeat (first | apply Kd.R_alloc | apply Kd.R_drewN | apply Kd.R_drew)); exact HO459.out) hb)
        have n1_ := Aside0.mk (Kd.R_below (by (with_reducible repeat (first | apply Kd.R_alloc | apply Kd.R_drewN | apply Kd.R_drew)); exact HO462.out) hb)
        have n2_ := Aside0.mk (Kd.R_below (by (with_reducible repeat (first | apply Kd.R_alloc | apply Kd.R_drewN | apply Kd.R_drew)); exact HO475.out) hb)
        have n3_ := Aside0.mk (blk_below (g := gb444) (by (with_reducible repeat (first | refine blk_drewN ?_ _ | refine blk_drew ?_ | refine blk_alloc ?_ _)); exact BK444.out) hb)
        have n4_ := Aside0.mk (blk_below (g := gb456) (by (with_reducible repeat (first | refine blk_drewN ?_ _ | refine blk_drew ?_ | refine blk_alloc ?_ _)); exact BK456.out) hb)
        have n5_ := Aside0.mk (below_step (by repeat (first | (with_reducible first | exact HB.out | apply below_alloc | apply pw_below_drewN | apply below_drew1 | refine below_set ?_ GE444.out | refine below_set ?_ GE456.out) | exact HB.out)) hb)
        clear HO459
        clear HO462
        clear HO475
        clear BK444
        clear BK456
        clear HB
        have HO459 := n0_
        have HO462 := n1_
        have HO475 := n2_
        have BK444 := n3_
        have BK456 := n4_
        have HB := n5_
        clear n0_ n1_ n2_ n3_ n4_ n5_
        (try clear hb)
        (try clear hb2)
        (try clear hk)
        (try clear hi)
        refine hK.out _ _ ⟨(blk_cell BK444.out 0).trans rfl, (blk_cell BK444.out 1).trans rfl, (blk_cell BK444.out 2).trans rfl, (blk_cell BK444.out 3).trans rfl, (blk_cell BK444.out 4).trans rfl, (blk_cell BK444.out 5).trans rfl, (blk_cell BK444.out 6).trans rfl, (blk_cell BK444.out 7).trans rfl, (blk_cell BK456.out 0).trans rfl, (blk_cell BK456.out 1).trans rfl, (blk_cell BK456.out 2).trans rfl, (blk_cell BK456.out 3).trans rfl, (blk_cell BK456.out 4).trans rfl, (blk_cell BK456.out 5).trans rfl, (blk_cell BK456.out 6).trans rfl, (blk_cell BK456.out 7).trans rfl, (blk_cell BK456.out 8).trans rfl⟩ (fun hHeld => ?_)
        clear hK K
        refine norm_ (a' := ?_) ?_ ?_
        rotate_left
        ·show Act.put _ (some 51) _ = _
         simp only [Act.put, sI, sZ, sS, i64_w, i32_w]
         rfl
        refine one_ (i := 21) (N := some 53) q22 rfl rfl (one_of HT_.out (by kernel_rfl)) (by decide) (fun K hK => ?_)
        refine goes_ Try.func33 (by kernel_rfl) rfl #[.agg #[.int .i64 t436, .int .i64 t437, .int .i64 t438, .int .i64 t439, .int .i64 t440, .int .i64 t441, .int .i64 t442, .bool t443]] (by rfl) rfl rfl (by (try simp only [mA, mC, mN]); first | done | rfl | (simp only [List.length_drop, List.length_take]; rfl)) ?_
        with_reducible refine (spec_NoteRight.calls kj2 t436 t437 t438 t439 t440 t441 t442 t443 t478 _ A36.out).mono ?_
        rintro e w44 ⟨rfl, hb⟩
        refine ⟨_, rfl, ?_⟩
        have n0_ := Aside0.mk (Kd.R_below (by (with_reducible repeat (first | apply Kd.R_alloc | apply Kd.R_drewN | apply Kd.R_drew)); exact HO459.out) hb)
        have n1_ := Aside0.mk (Kd.R_below (by (with_reducible repeat (first | apply Kd.R_alloc | apply Kd.R_drewN | apply Kd.R_drew)); exact HO462.out) hb)
        have n2_ := Aside0.mk (Kd.R_below (by (with_reducible repeat (first | apply Kd.R_alloc | apply Kd.R_drewN | apply Kd.R_drew)); exact HO475.out) hb)
        have n3_ := Aside0.mk (blk_below (g := gb444) (by (with_reducible repeat (first | refine blk_drewN ?_ _ | refine blk_drew ?_ | refine blk_alloc ?_ _)); exact BK444.out) hb)
        have n4_ := Aside0.mk (blk_below (g := gb456) (by (with_reducible repeat (first | refine blk_drewN ?_ _ | refine blk_drew ?_ | refine blk_alloc ?_ _)); exact BK456.out) hb)
        have n5_ := Aside0.mk (below_step (by repeat (first | (with_reducible first | exact HB.out | apply below_alloc | apply pw_below_drewN | apply below_drew1 | refine below_set ?_ GE444.out | refine below_set ?_ GE456.out) | exact HB.out)) hb)
        clear HO459
        clear HO462
        clear HO475
        clear BK444
        clear BK456
        clear HB
        have HO459 := n0_
        have HO462 := n1_
        have HO475 := n2_
        have BK444 := n3_
        have BK456 := n4_
        have HB := n5_
        clear n0_ n1_ n2_ n3_ n4_ n5_
        (try clear hb)
        (try clear hb2)
        (try clear hk)
        (try clear hi)
        refine hK.out _ _ ⟨(blk_cell BK444.out 0).trans rfl, (blk_cell BK444.out 1).trans rfl, (blk_cell BK444.out 2).trans rfl, (blk_cell BK444.out 3).trans rfl, (blk_cell BK444.out 4).trans rfl, (blk_cell BK444.out 5).trans rfl, (blk_cell BK444.out 6).trans rfl, (blk_cell BK444.out 7).trans rfl, (blk_cell BK456.out 0).trans rfl, (blk_cell BK456.out 1).trans rfl, (blk_cell BK456.out 2).trans rfl, (blk_cell BK456.out 3).trans rfl, (blk_cell BK456.out 4).trans rfl, (blk_cell BK456.out 5).trans rfl, (blk_cell BK456.out 6).trans rfl, (blk_cell BK456.out 7).trans rfl, (blk_cell BK456.out 8).trans rfl⟩ (fun hHeld => ?_)
        clear hK K
        refine norm_ (a' := ?_) ?_ ?_
        rotate_left
        ·show Act.put _ (some 53) _ = _
         simp only [Act.put, sI, sZ, sS, i64_w, i32_w]
         rfl
        refine pure_ (i := 22) (N := some 54) (v := ?_) (a' := ?_) q23 rfl rfl (any_of HT_.out (by kernel_rfl)) (fun _ _ _ h => h) (Or.inl ⟨by rfl, ?_⟩) ?_ ?_
        rotate_left
        ·intro w'
         go_simp
         with_reducible rfl
        rotate_left
        ·simp only [Act.put, sI, sZ, sS, i64_w, i32_w]
         rfl
        refine pure_ (i := 23) (N := some 55) (v := ?_) (a' := ?_) q24 rfl rfl (any_of HT_.out (by kernel_rfl)) (fun _ _ _ h => h) (Or.inl ⟨by rfl, ?_⟩) ?_ ?_
        rotate_left
        ·intro w'
         go_simp
         with_reducible rfl
        rotate_left
        ·simp only [Act.put, sI, sZ, sS, i64_w, i32_w]
         rfl
        refine done_ (done_of HT_.out (by kernel_rfl)) ?_
        try go_wp2
        go_meet
        case rel => exact ⟨_, ((t477 != t478)), (by first | rfl | (simp; done) | (simp [*]; done)), H', ⟨by have := HJ2.out; first | omega | exact Nat.le_refl _⟩, ⟨by (with_reducible repeat (first | apply Kd.R_alloc | apply Kd.R_drewN | apply Kd.R_drew)); exact HO459.out⟩, ⟨by (with_reducible repeat (first | apply Kd.R_alloc | apply Kd.R_drewN | apply Kd.R_drew)); exact Kd.R_mono HO462.out (fun _ hk => trivial)⟩, ⟨by (with_reducible repeat (first | refine blk_drewN ?_ _ | refine blk_drew ?_ | refine blk_alloc ?_ _)); exact BK444.out⟩, ⟨by (with_reducible repeat (first | refine blk_drewN ?_ _ | refine blk_drew ?_ | refine blk_alloc ?_ _)); exact BK456.out⟩, ⟨by repeat (first | (with_reducible first | exact HB.out | apply below_alloc | apply pw_below_drewN | apply below_drew1 | refine below_set ?_ GE444.out | refine below_set ?_ GE456.out) | exact HB.out)⟩⟩
       ·replace c34 := Bool.eq_false_iff.mpr c34
        subst c34
        have H1 : (laws_FnNote.j1 kj2 t445 t446 t457 t460 true t436 t437 t438 t439 t440 t441 t442 t443 t447 t448 t449 t450 t451 t452 t453 t454 t455) = some r := by rw [if_neg (show ¬ (false = true) by decide)] at H; exact H
        clear H
        have H := H1
        clear H1
        have H' := Aside0.mk H
        clear H
        try go_wp2
        have n0_ := Aside0.mk (Kd.R_drew HO459.out)
        have n1_ := Aside0.mk (Kd.R_drew HO462.out)
        have n2_ := Aside0.mk (blk_drew BK444.out)
        have n3_ := Aside0.mk (blk_drew BK456.out)
        have n4_ := Aside0.mk (below_drew1 HB.out)
        clear HO459
        clear HO462
        clear BK444
        clear BK456
        clear HB
        have HO459 := n0_
        have HO462 := n1_
        have BK444 := n2_
        have BK456 := n3_
        have HB := n4_
        clear n0_ n1_ n2_ n3_ n4_
        refine start_ (n := 24) (S := fun w' => w'.cell? ⟨gb444, 0, none⟩ = some (.int .i64 t436) ∧ w'.cell? ⟨gb444, 1, none⟩ = some (.int .i64 t437) ∧ w'.cell? ⟨gb444, 2, none⟩ = some (.int .i64 t438) ∧ w'.cell? ⟨gb444, 3, none⟩ = some (.int .i64 t439) ∧ w'.cell? ⟨gb444, 4, none⟩ = some (.int .i64 t440) ∧ w'.cell? ⟨gb444, 5, none⟩ = some (.int .i64 t441) ∧ w'.cell? ⟨gb444, 6, none⟩ = some (.int .i64 t442) ∧ w'.cell? ⟨gb444, 7, none⟩ = some (.bool t443) ∧ w'.cell? ⟨gb456, 0, none⟩ = some (.int .i64 t447) ∧ w'.cell? ⟨gb456, 1, none⟩ = some (.int .i64 t448) ∧ w'.cell? ⟨gb456, 2, none⟩ = some (.int .i64 t449) ∧ w'.cell? ⟨gb456, 3, none⟩ = some (.int .i64 t450) ∧ w'.cell? ⟨gb456, 4, none⟩ = some (.int .i64 t451) ∧ w'.cell? ⟨gb456, 5, none⟩ = some (.int .i64 t452) ∧ w'.cell? ⟨gb456, 6, none⟩ = some (.int .i64 t453) ∧ w'.cell? ⟨gb456, 7, none⟩ = some (.bool t454) ∧ w'.cell? ⟨gb456, 8, none⟩ = some (.int .i64 t455)) (ds := []) q0 (by kernel_rfl) rfl rfl ⟨(blk_cell BK444.out 0).trans rfl, (blk_cell BK444.out 1).trans rfl, (blk_cell BK444.out 2).trans rfl, (blk_cell BK444.out 3).trans rfl, (blk_cell BK444.out 4).trans rfl, (blk_cell BK444.out 5).trans rfl, (blk_cell BK444.out 6).trans rfl, (blk_cell BK444.out 7).trans rfl, (blk_cell BK456.out 0).trans rfl, (blk_cell BK456.out 1).trans rfl, (blk_cell BK456.out 2).trans rfl, (blk_cell BK456.out 3).trans rfl, (blk_cell BK456.out 4).trans rfl, (blk_cell BK456.out 5).trans rfl, (blk_cell BK456.out 6).trans rfl, (blk_cell BK456.out 7).trans rfl, (blk_cell BK456.out 8).trans rfl⟩ (fun hHeld => ?_); refine with_tabW laws_FnNote.tab9 laws_FnNote.bits9 (fun HT_ HW_ => ?_)
        generalize w24.drew = w45 at HO459 HO462 BK444 BK456 HB hHeld ⊢
        refine pure_ (i := 0) (N := some 32) (v := ?_) (a' := ?_) q1 rfl rfl (any_of HT_.out (by kernel_rfl)) (fun _ _ _ h => h) (Or.inl ⟨by rfl, ?_⟩) ?_ ?_
        rotate_left
        ·intro w'
         go_simp
         with_reducible rfl
        rotate_left
        ·simp only [Act.put, sI, sZ, sS, i64_w, i32_w]
         rfl
        refine take_ (i := 1) (N := some 33) (v := ?_) (a' := ?_) q2 rfl rfl (take_ofW HT_.out HW_.out (by kernel_rfl)) (fun _ _ _ h => h) (Or.inl ⟨by rfl, ?_⟩) hHeld ?_ ?_
        rotate_left
        ·rintro w' ⟨s0, s1, s2, s3, s4, s5, s6, s7, s8, s9, s10, s11, s12, s13, s14, s15, s16⟩
         go_simp
         with_reducible rfl
        rotate_left
        ·simp only [Act.put, sI, sZ, sS, i64_w, i32_w]
         rfl
        refine one_ (i := 2) (N := some 34) q3 rfl rfl (one_of HT_.out (by kernel_rfl)) (by decide) (fun K hK => ?_)
        refine goes_ Try.func28 (by kernel_rfl) rfl #[.agg #[.int .i64 t436, .int .i64 t437, .int .i64 t438, .int .i64 t439, .int .i64 t440, .int .i64 t441, .int .i64 t442, .bool t443]] (by rfl) rfl rfl (by (try simp only [mA, mC, mN]); first | done | rfl | (simp only [List.length_drop, List.length_take]; rfl)) ?_
        with_reducible refine (spec_NoteBytes.calls kj2 t436 t437 t438 t439 t440 t441 t442 t443 t463 _ A25.out).mono ?_
        rintro e w46 ⟨rfl, hb⟩
        refine ⟨_, rfl, ?_⟩
        have n0_ := Aside0.mk (Kd.R_below (by (with_reducible repeat (first | apply Kd.R_alloc | apply Kd.R_drewN | apply Kd.R_drew)); exact HO459.out) hb)
        have n1_ := Aside0.mk (Kd.R_below (by (with_reducible repeat (first | apply Kd.R_alloc | apply Kd.R_drewN | apply Kd.R_drew)); exact HO462.out) hb)
        have n2_ := Aside0.mk (blk_below (g := gb444) (by (with_reducible repeat (first | refine blk_drewN ?_ _ | refine blk_drew ?_ | refine blk_alloc ?_ _)); exact BK444.out) hb)
        have n3_ := Aside0.mk (blk_below (g := gb456) (by (with_reducible repeat (first | refine blk_drewN ?_ _ | refine blk_drew ?_ | refine blk_alloc ?_ _)); exact BK456.out) hb)
        have n4_ := Aside0.mk (below_step (by repeat (first | (with_reducible first | exact HB.out | apply below_alloc | apply pw_below_drewN | apply below_drew1 | refine below_set ?_ GE444.out | refine below_set ?_ GE456.out) | exact HB.out)) hb)
        clear HO459
        clear HO462
        clear BK444
        clear BK456
        clear HB
        have HO459 := n0_
        have HO462 := n1_
        have BK444 := n2_
        have BK456 := n3_
        have HB := n4_
        clear n0_ n1_ n2_ n3_ n4_
        (try clear hb)
        (try clear hb2)
        (try clear hk)
        (try clear hi)
        refine hK.out _ _ ⟨(blk_cell BK444.out 0).trans rfl, (blk_cell BK444.out 1).trans rfl, (blk_cell BK444.out 2).trans rfl, (blk_cell BK444.out 3).trans rfl, (blk_cell BK444.out 4).trans rfl, (blk_cell BK444.out 5).trans rfl, (blk_cell BK444.out 6).trans rfl, (blk_cell BK444.out 7).trans rfl, (blk_cell BK456.out 0).trans rfl, (blk_cell BK456.out 1).trans rfl, (blk_cell BK456.out 2).trans rfl, (blk_cell BK456.out 3).trans rfl, (blk_cell BK456.out 4).trans rfl, (blk_cell BK456.out 5).trans rfl, (blk_cell BK456.out 6).trans rfl, (blk_cell BK456.out 7).trans rfl, (blk_cell BK456.out 8).trans rfl⟩ (fun hHeld => ?_)
        clear hK K
        refine norm_ (a' := ?_) ?_ ?_
        rotate_left
        ·show Act.put _ (some 34) _ = _
         simp only [Act.put, sI, sZ, sS, i64_w, i32_w]
         rfl
        refine pure_ (i := 3) (N := some 35) (v := ?_) (a' := ?_) q4 rfl rfl (any_of HT_.out (by kernel_rfl)) (fun _ _ _ h => h) (Or.inl ⟨by rfl, ?_⟩) ?_ ?_
        rotate_left
        ·intro w'
         go_simp
         with_reducible rfl
        rotate_left
        ·simp only [Act.put, sI, sZ, sS, i64_w, i32_w]
         rfl
        refine pure_ (i := 4) (N := some 36) (v := ?_) (a' := ?_) q5 rfl rfl (any_of HT_.out (by kernel_rfl)) (fun _ _ _ h => h) (Or.inl ⟨by rfl, ?_⟩) ?_ ?_
        rotate_left
        ·intro w'
         go_simp
         with_reducible rfl
        rotate_left
        ·simp only [Act.put, sI, sZ, sS, i64_w, i32_w]
         rfl
        refine pure_ (i := 6) (N := some 38) (v := ?_) (a' := ?_) q6 rfl rfl (any_of HT_.out (by kernel_rfl)) (fun _ _ _ h => h) (Or.inl ⟨by rfl, ?_⟩) ?_ ?_
        rotate_left
        ·intro w'
         go_simp
         with_reducible rfl
        rotate_left
        ·simp only [Act.put, sI, sZ, sS, i64_w, i32_w]
         rfl
        refine take_ (i := 5) (N := some 37) (v := ?_) (a' := ?_) q7 rfl rfl (take_ofW HT_.out HW_.out (by kernel_rfl)) (fun _ _ _ h => h) (Or.inl ⟨by rfl, ?_⟩) hHeld ?_ ?_
        rotate_left
        ·rintro w' ⟨s0, s1, s2, s3, s4, s5, s6, s7, s8, s9, s10, s11, s12, s13, s14, s15, s16⟩
         go_simp
         with_reducible rfl
        rotate_left
        ·simp only [Act.put, sI, sZ, sS, i64_w, i32_w]
         rfl
        refine one_ (i := 7) (N := some 39) q8 rfl rfl (one_of HT_.out (by kernel_rfl)) (by decide) (fun K hK => ?_)
        refine goes_ Try.func29 (by kernel_rfl) rfl #[.string t446] (by rfl) rfl rfl (by (try simp only [mA, mC, mN]); first | done | rfl | (simp only [List.length_drop, List.length_take]; rfl)) ?_
        with_reducible refine (spec_NoteRead.calls kj2 t446 t464 t465 t466 t467 t468 t469 t470 t471 t472 _ A27.out).mono ?_
        rintro e w47 ⟨rfl, hb⟩
        refine ⟨_, rfl, ?_⟩
        have n0_ := Aside0.mk (Kd.R_below (by (with_reducible repeat (first | apply Kd.R_alloc | apply Kd.R_drewN | apply Kd.R_drew)); exact HO459.out) hb)
        have n1_ := Aside0.mk (Kd.R_below (by (with_reducible repeat (first | apply Kd.R_alloc | apply Kd.R_drewN | apply Kd.R_drew)); exact HO462.out) hb)
        have n2_ := Aside0.mk (blk_below (g := gb444) (by (with_reducible repeat (first | refine blk_drewN ?_ _ | refine blk_drew ?_ | refine blk_alloc ?_ _)); exact BK444.out) hb)
        have n3_ := Aside0.mk (blk_below (g := gb456) (by (with_reducible repeat (first | refine blk_drewN ?_ _ | refine blk_drew ?_ | refine blk_alloc ?_ _)); exact BK456.out) hb)
        have n4_ := Aside0.mk (below_step (by repeat (first | (with_reducible first | exact HB.out | apply below_alloc | apply pw_below_drewN | apply below_drew1 | refine below_set ?_ GE444.out | refine below_set ?_ GE456.out) | exact HB.out)) hb)
        clear HO459
        clear HO462
        clear BK444
        clear BK456
        clear HB
        have HO459 := n0_
        have HO462 := n1_
        have BK444 := n2_
        have BK456 := n3_
        have HB := n4_
        clear n0_ n1_ n2_ n3_ n4_
        (try clear hb)
        (try clear hb2)
        (try clear hk)
        (try clear hi)
        refine hK.out _ _ ⟨(blk_cell BK444.out 0).trans rfl, (blk_cell BK444.out 1).trans rfl, (blk_cell BK444.out 2).trans rfl, (blk_cell BK444.out 3).trans rfl, (blk_cell BK444.out 4).trans rfl, (blk_cell BK444.out 5).trans rfl, (blk_cell BK444.out 6).trans rfl, (blk_cell BK444.out 7).trans rfl, (blk_cell BK456.out 0).trans rfl, (blk_cell BK456.out 1).trans rfl, (blk_cell BK456.out 2).trans rfl, (blk_cell BK456.out 3).trans rfl, (blk_cell BK456.out 4).trans rfl, (blk_cell BK456.out 5).trans rfl, (blk_cell BK456.out 6).trans rfl, (blk_cell BK456.out 7).trans rfl, (blk_cell BK456.out 8).trans rfl⟩ (fun hHeld => ?_)
        clear hK K
        refine norm_ (a' := ?_) ?_ ?_
        rotate_left
        ·show Act.put _ (some 39) _ = _
         simp only [Act.put, sI, sZ, sS, i64_w, i32_w]
         rfl
        refine pure_ (i := 8) (N := some 40) (v := ?_) (a' := ?_) q9 rfl rfl (any_of HT_.out (by kernel_rfl)) (fun _ _ _ h => h) (Or.inl ⟨by rfl, ?_⟩) ?_ ?_
        rotate_left
        ·intro w'
         go_simp
         with_reducible rfl
        rotate_left
        ·simp only [Act.put, sI, sZ, sS, i64_w, i32_w]
         rfl
        refine pure_ (i := 9) (N := some 41) (v := ?_) (a' := ?_) q10 rfl rfl (any_of HT_.out (by kernel_rfl)) (fun _ _ _ h => h) (Or.inl ⟨by rfl, ?_⟩) ?_ ?_
        rotate_left
        ·intro w'
         go_simp
         with_reducible rfl
        rotate_left
        ·simp only [Act.put, sI, sZ, sS, i64_w, i32_w]
         rfl
        refine pure_ (i := 10) (N := some 42) (v := ?_) (a' := ?_) q11 rfl rfl (any_of HT_.out (by kernel_rfl)) (fun _ _ _ h => h) (Or.inl ⟨by rfl, ?_⟩) ?_ ?_
        rotate_left
        ·intro w'
         go_simp
         with_reducible rfl
        rotate_left
        ·simp only [Act.put, sI, sZ, sS, i64_w, i32_w]
         rfl
        refine pure_ (i := 11) (N := some 43) (v := ?_) (a' := ?_) q12 rfl rfl (any_of HT_.out (by kernel_rfl)) (fun _ _ _ h => h) (Or.inl ⟨by rfl, ?_⟩) ?_ ?_
        rotate_left
        ·intro w'
         go_simp
         with_reducible rfl
        rotate_left
        ·simp only [Act.put, sI, sZ, sS, i64_w, i32_w]
         rfl
        refine pure_ (i := 12) (N := some 44) (v := ?_) (a' := ?_) q13 rfl rfl (any_of HT_.out (by kernel_rfl)) (fun _ _ _ h => h) (Or.inl ⟨by rfl, ?_⟩) ?_ ?_
        rotate_left
        ·intro w'
         go_simp
         with_reducible rfl
        rotate_left
        ·simp only [Act.put, sI, sZ, sS, i64_w, i32_w]
         rfl
        refine one_ (i := 13) (N := some 45) q14 rfl rfl (one_of HT_.out (by kernel_rfl)) (by decide) (fun K hK => ?_)
        refine goes_ Try.func31 (by kernel_rfl) rfl #[.slice Ao23 t457.length co23] (by rfl) rfl rfl (by (try simp only [mA, mC, mN]); first | done | rfl | (simp only [List.length_drop, List.length_take]; rfl)) ?_
        with_reducible refine (spec_DumpOf.calls kj2 _ _ t457 t473 _ ?side1 ?side2 A32.out).mono ?_
        (case side1 => repeat (first | exact (Kd.R_reads' HO459.out).2.2 | (with_reducible refine Kd.C_alloc ?_ _) | (with_reducible refine Kd.C_drewN ?_ _) | (with_reducible refine Kd.C_drew ?_)))
        (case side2 => exact (Kd.R_reads' HO459.out).2.1)
        rintro e w48 ⟨v474, rfl, ho0, hb⟩
        refine ⟨_, rfl, ?_⟩
        have n0_ := Aside0.mk (Kd.R_below (by (with_reducible repeat (first | apply Kd.R_alloc | apply Kd.R_drewN | apply Kd.R_drew)); exact HO459.out) hb)
        have n1_ := Aside0.mk (Kd.R_elder' (by (with_reducible repeat (first | apply Kd.R_alloc | apply Kd.R_drewN | apply Kd.R_drew)); exact HO462.out) (Kd.R_base ho0) hb)
        have n2_ := Aside0.mk (Kd.R_lower (Kd.R_new' ho0 (Kd.R_lt (by (with_reducible repeat (first | apply Kd.R_alloc | apply Kd.R_drewN | apply Kd.R_drew)); exact HO462.out))) (below_size (by repeat (first | (with_reducible first | exact HB.out | apply below_alloc | apply pw_below_drewN | apply below_drew1 | refine below_set ?_ GE444.out | refine below_set ?_ GE456.out) | exact HB.out))))
        have n3_ := Aside0.mk (blk_below (g := gb444) (by (with_reducible repeat (first | refine blk_drewN ?_ _ | refine blk_drew ?_ | refine blk_alloc ?_ _)); exact BK444.out) hb)
        have n4_ := Aside0.mk (blk_below (g := gb456) (by (with_reducible repeat (first | refine blk_drewN ?_ _ | refine blk_drew ?_ | refine blk_alloc ?_ _)); exact BK456.out) hb)
        have n5_ := Aside0.mk (below_step (by repeat (first | (with_reducible first | exact HB.out | apply below_alloc | apply pw_below_drewN | apply below_drew1 | refine below_set ?_ GE444.out | refine below_set ?_ GE456.out) | exact HB.out)) hb)
        clear HO459
        clear HO462
        clear BK444
        clear BK456
        clear HB
        have HO459 := n0_
        have HO462 := n1_
        have HO475 := n2_
        have BK444 := n3_
        have BK456 := n4_
        have HB := n5_
        clear n0_ n1_ n2_ n3_ n4_ n5_
        (try clear hb)
        (try clear hb2)
        (try clear hk)
        (try clear hi)
        (try clear ho0)
        obtain ⟨Ao49, co49, eo49⟩ := Kd.R_slice HO462.out
        (first | subst eo49 | (injection eo49 with f1_ f2_ f3_; have f4_ := f1_.symm; have f5_ := f3_.symm; clear f1_ f2_ f3_; subst f4_; subst f5_))
        obtain ⟨Ao50, co50, eo50⟩ := Kd.R_slice HO475.out
        (first | subst eo50 | (injection eo50 with f1_ f2_ f3_; have f4_ := f1_.symm; have f5_ := f3_.symm; clear f1_ f2_ f3_; subst f4_; subst f5_))
        refine hK.out _ _ ⟨(blk_cell BK444.out 0).trans rfl, (blk_cell BK444.out 1).trans rfl, (blk_cell BK444.out 2).trans rfl, (blk_cell BK444.out 3).trans rfl, (blk_cell BK444.out 4).trans rfl, (blk_cell BK444.out 5).trans rfl, (blk_cell BK444.out 6).trans rfl, (blk_cell BK444.out 7).trans rfl, (blk_cell BK456.out 0).trans rfl, (blk_cell BK456.out 1).trans rfl, (blk_cell BK456.out 2).trans rfl, (blk_cell BK456.out 3).trans rfl, (blk_cell BK456.out 4).trans rfl, (blk_cell BK456.out 5).trans rfl, (blk_cell BK456.out 6).trans rfl, (blk_cell BK456.out 7).trans rfl, (blk_cell BK456.out 8).trans rfl⟩ (fun hHeld => ?_)
        clear hK K
        refine norm_ (a' := ?_) ?_ ?_
        rotate_left
        ·show Act.put _ (some 45) _ = _
         simp only [Act.put, sI, sZ, sS, i64_w, i32_w]
         rfl
        refine one_ (i := 14) (N := some 46) q15 rfl rfl (one_of HT_.out (by kernel_rfl)) (by decide) (fun K hK => ?_)
        refine goes_ Try.func30 (by kernel_rfl) rfl #[.slice Ao49 t460.length co49, .slice Ao50 t473.length co50] (by rfl) rfl rfl (by (try simp only [mA, mC, mN]); first | done | rfl | (simp only [List.length_drop, List.length_take]; rfl)) ?_
        with_reducible refine (laws_lwTexts.calls kj2 _ _ t460 _ _ t473 false _ ?side1 ?side2 ?side3 ?side4 A33.out).mono ?_
        (case side1 => repeat (first | exact (Kd.R_reads' HO462.out).2.2 | (with_reducible refine Kd.C_alloc ?_ _) | (with_reducible refine Kd.C_drewN ?_ _) | (with_reducible refine Kd.C_drew ?_)))
        (case side2 => exact (Kd.R_reads' HO462.out).2.1)
        (case side3 => repeat (first | exact (Kd.R_reads' HO475.out).2.2 | (with_reducible refine Kd.C_alloc ?_ _) | (with_reducible refine Kd.C_drewN ?_ _) | (with_reducible refine Kd.C_drew ?_)))
        (case side4 => exact (Kd.R_reads' HO475.out).2.1)
        rintro e w' ⟨rfl, ⟨nd, rfl⟩⟩
        refine ⟨_, rfl, ?_⟩
        refine hK.out _ _ ⟨(blk_cell BK444.out 0).trans rfl, (blk_cell BK444.out 1).trans rfl, (blk_cell BK444.out 2).trans rfl, (blk_cell BK444.out 3).trans rfl, (blk_cell BK444.out 4).trans rfl, (blk_cell BK444.out 5).trans rfl, (blk_cell BK444.out 6).trans rfl, (blk_cell BK444.out 7).trans rfl, (blk_cell BK456.out 0).trans rfl, (blk_cell BK456.out 1).trans rfl, (blk_cell BK456.out 2).trans rfl, (blk_cell BK456.out 3).trans rfl, (blk_cell BK456.out 4).trans rfl, (blk_cell BK456.out 5).trans rfl, (blk_cell BK456.out 6).trans rfl, (blk_cell BK456.out 7).trans rfl, (blk_cell BK456.out 8).trans rfl⟩ (fun hHeld => ?_)
        clear hK K
        refine norm_ (a' := ?_) ?_ ?_
        rotate_left
        ·show Act.put _ (some 46) _ = _
         simp only [Act.put, sI, sZ, sS, i64_w, i32_w]
         rfl
        refine pure_ (i := 15) (N := some 47) (v := ?_) (a' := ?_) q16 rfl rfl (any_of HT_.out (by kernel_rfl)) (fun _ _ _ h => h) (Or.inl ⟨by rfl, ?_⟩) ?_ ?_
        rotate_left
        ·intro w'
         go_simp
         with_reducible rfl
        rotate_left
        ·simp only [Act.put, sI, sZ, sS, i64_w, i32_w]
         rfl
        refine pure_ (i := 16) (N := some 48) (v := ?_) (a' := ?_) q17 rfl rfl (any_of HT_.out (by kernel_rfl)) (fun _ _ _ h => h) (Or.inl ⟨by rfl, ?_⟩) ?_ ?_
        rotate_left
        ·intro w'
         go_simp
         with_reducible rfl
        rotate_left
        ·simp only [Act.put, sI, sZ, sS, i64_w, i32_w]
         rfl
        refine pure_ (i := 17) (N := some 49) (v := ?_) (a' := ?_) q18 rfl rfl (any_of HT_.out (by kernel_rfl)) (fun _ _ _ h => h) (Or.inl ⟨by rfl, ?_⟩) ?_ ?_
        rotate_left
        ·intro w'
         go_simp
         with_reducible rfl
        rotate_left
        ·simp only [Act.put, sI, sZ, sS, i64_w, i32_w]
         rfl
        refine pure_ (i := 18) (N := some 50) (v := undef) (a' := ?_) q19 rfl rfl (any_of HT_.out (by kernel_rfl)) (fun _ _ _ h => h) (Or.inr ⟨by rfl, rfl⟩) ?_ ?_
        rotate_left
        ·simp only [Act.put, sI, sZ, sS, i64_w, i32_w]
         rfl
        refine pure_ (i := 19) (N := some 51) (v := undef) (a' := ?_) q20 rfl rfl (any_of HT_.out (by kernel_rfl)) (fun _ _ _ h => h) (Or.inr ⟨by rfl, rfl⟩) ?_ ?_
        rotate_left
        ·simp only [Act.put, sI, sZ, sS, i64_w, i32_w]
         rfl
        refine pure_ (i := 20) (N := some 52) (v := undef) (a' := ?_) q21 rfl rfl (any_of HT_.out (by kernel_rfl)) (fun _ _ _ h => h) (Or.inr ⟨by rfl, rfl⟩) ?_ ?_
        rotate_left
        ·simp only [Act.put, sI, sZ, sS, i64_w, i32_w]
         rfl
        refine pure_ (i := 21) (N := some 53) (v := undef) (a' := ?_) q22 rfl rfl (any_of HT_.out (by kernel_rfl)) (fun _ _ _ h => h) (Or.inr ⟨by rfl, rfl⟩) ?_ ?_
        rotate_left
        ·simp only [Act.put, sI, sZ, sS, i64_w, i32_w]
         rfl
        refine pure_ (i := 22) (N := some 54) (v := undef) (a' := ?_) q23 rfl rfl (any_of HT_.out (by kernel_rfl)) (fun _ _ _ h => h) (Or.inr ⟨by rfl, rfl⟩) ?_ ?_
        rotate_left
        ·simp only [Act.put, sI, sZ, sS, i64_w, i32_w]
         rfl
        refine pure_ (i := 23) (N := some 55) (v := ?_) (a' := ?_) q24 rfl rfl (any_of HT_.out (by kernel_rfl)) (fun _ _ _ h => h) (Or.inl ⟨by rfl, ?_⟩) ?_ ?_
        rotate_left
        ·intro w'
         go_simp
         with_reducible rfl
        rotate_left
        ·simp only [Act.put, sI, sZ, sS, i64_w, i32_w]
         rfl
        refine done_ (done_of HT_.out (by kernel_rfl)) ?_
        try go_wp2
        go_meet
        case rel => exact ⟨_, (true), (by first | rfl | (simp; done) | (simp [*]; done)), H', ⟨by have := HJ2.out; first | omega | exact Nat.le_refl _⟩, ⟨by (with_reducible repeat (first | apply Kd.R_alloc | apply Kd.R_drewN | apply Kd.R_drew)); exact HO459.out⟩, ⟨by (with_reducible repeat (first | apply Kd.R_alloc | apply Kd.R_drewN | apply Kd.R_drew)); exact Kd.R_mono HO462.out (fun _ hk => trivial)⟩, ⟨by (with_reducible repeat (first | refine blk_drewN ?_ _ | refine blk_drew ?_ | refine blk_alloc ?_ _)); exact BK444.out⟩, ⟨by (with_reducible repeat (first | refine blk_drewN ?_ _ | refine blk_drew ?_ | refine blk_alloc ?_ _)); exact BK456.out⟩, ⟨by repeat (first | (with_reducible first | exact HB.out | apply below_alloc | apply pw_below_drewN | apply below_drew1 | refine below_set ?_ GE444.out | refine below_set ?_ GE456.out) | exact HB.out)⟩⟩
     ·rw [if_neg c26] at H
      have c26b0 : (t445.toList == t463.toList) = false := beq_eq_false_iff_ne.mpr c26
      have c26b1 : (t445.toList != t463.toList) = true := bne_iff_ne.mpr c26
      (first | rw [c26b0] | (simp only [i64_w, i32_w]; rw [c26b0]) | skip)
      have H' := Aside0.mk H
      clear H
      try go_wp2
      have n0_ := Aside0.mk (Kd.R_drew HO459.out)
      have n1_ := Aside0.mk (Kd.R_drew HO462.out)
      have n2_ := Aside0.mk (blk_drew BK444.out)
      have n3_ := Aside0.mk (blk_drew BK456.out)
      have n4_ := Aside0.mk (below_drew1 HB.out)
      clear HO459
      clear HO462
      clear BK444
      clear BK456
      clear HB
      have HO459 := n0_
      have HO462 := n1_
      have BK444 := n2_
      have BK456 := n3_
      have HB := n4_
      clear n0_ n1_ n2_ n3_ n4_
      refine start_ (n := 24) (S := fun w' => w'.cell? ⟨gb444, 0, none⟩ = some (.int .i64 t436) ∧ w'.cell? ⟨gb444, 1, none⟩ = some (.int .i64 t437) ∧ w'.cell? ⟨gb444, 2, none⟩ = some (.int .i64 t438) ∧ w'.cell? ⟨gb444, 3, none⟩ = some (.int .i64 t439) ∧ w'.cell? ⟨gb444, 4, none⟩ = some (.int .i64 t440) ∧ w'.cell? ⟨gb444, 5, none⟩ = some (.int .i64 t441) ∧ w'.cell? ⟨gb444, 6, none⟩ = some (.int .i64 t442) ∧ w'.cell? ⟨gb444, 7, none⟩ = some (.bool t443)) (ds := []) q0 (by kernel_rfl) rfl rfl ⟨(blk_cell BK444.out 0).trans rfl, (blk_cell BK444.out 1).trans rfl, (blk_cell BK444.out 2).trans rfl, (blk_cell BK444.out 3).trans rfl, (blk_cell BK444.out 4).trans rfl, (blk_cell BK444.out 5).trans rfl, (blk_cell BK444.out 6).trans rfl, (blk_cell BK444.out 7).trans rfl⟩ (fun hHeld => ?_); refine with_tabW laws_FnNote.tab9 laws_FnNote.bits9 (fun HT_ HW_ => ?_)
      generalize w24.drew = w51 at HO459 HO462 BK444 BK456 HB hHeld ⊢
      refine pure_ (i := 0) (N := some 32) (v := ?_) (a' := ?_) q1 rfl rfl (any_of HT_.out (by kernel_rfl)) (fun _ _ _ h => h) (Or.inl ⟨by rfl, ?_⟩) ?_ ?_
      rotate_left
      ·intro w'
       go_simp
       with_reducible rfl
      rotate_left
      ·simp only [Act.put, sI, sZ, sS, i64_w, i32_w]
       rfl
      refine take_ (i := 1) (N := some 33) (v := ?_) (a' := ?_) q2 rfl rfl (take_ofW HT_.out HW_.out (by kernel_rfl)) (fun _ _ _ h => h) (Or.inl ⟨by rfl, ?_⟩) hHeld ?_ ?_
      rotate_left
      ·rintro w' ⟨s0, s1, s2, s3, s4, s5, s6, s7⟩
       go_simp
       with_reducible rfl
      rotate_left
      ·simp only [Act.put, sI, sZ, sS, i64_w, i32_w]
       rfl
      refine one_ (i := 2) (N := some 34) q3 rfl rfl (one_of HT_.out (by kernel_rfl)) (by decide) (fun K hK => ?_)
      refine goes_ Try.func28 (by kernel_rfl) rfl #[.agg #[.int .i64 t436, .int .i64 t437, .int .i64 t438, .int .i64 t439, .int .i64 t440, .int .i64 t441, .int .i64 t442, .bool t443]] (by rfl) rfl rfl (by (try simp only [mA, mC, mN]); first | done | rfl | (simp only [List.length_drop, List.length_take]; rfl)) ?_
      with_reducible refine (spec_NoteBytes.calls kj2 t436 t437 t438 t439 t440 t441 t442 t443 t463 _ A25.out).mono ?_
      rintro e w52 ⟨rfl, hb⟩
      refine ⟨_, rfl, ?_⟩
      have n0_ := Aside0.mk (Kd.R_below (by (with_reducible repeat (first | apply Kd.R_alloc | apply Kd.R_drewN | apply Kd.R_drew)); exact HO459.out) hb)
      have n1_ := Aside0.mk (Kd.R_below (by (with_reducible repeat (first | apply Kd.R_alloc | apply Kd.R_drewN | apply Kd.R_drew)); exact HO462.out) hb)
      have n2_ := Aside0.mk (blk_below (g := gb444) (by (with_reducible repeat (first | refine blk_drewN ?_ _ | refine blk_drew ?_ | refine blk_alloc ?_ _)); exact BK444.out) hb)
      have n3_ := Aside0.mk (blk_below (g := gb456) (by (with_reducible repeat (first | refine blk_drewN ?_ _ | refine blk_drew ?_ | refine blk_alloc ?_ _)); exact BK456.out) hb)
      have n4_ := Aside0.mk (below_step (by repeat (first | (with_reducible first | exact HB.out | apply below_alloc | apply pw_below_drewN | apply below_drew1 | refine below_set ?_ GE444.out | refine below_set ?_ GE456.out) | exact HB.out)) hb)
      clear HO459
      clear HO462
      clear BK444
      clear BK456
      clear HB
      have HO459 := n0_
      have HO462 := n1_
      have BK444 := n2_
      have BK456 := n3_
      have HB := n4_
      clear n0_ n1_ n2_ n3_ n4_
      (try clear hb)
      (try clear hb2)
      (try clear hk)
      (try clear hi)
      refine hK.out _ _ ⟨(blk_cell BK444.out 0).trans rfl, (blk_cell BK444.out 1).trans rfl, (blk_cell BK444.out 2).trans rfl, (blk_cell BK444.out 3).trans rfl, (blk_cell BK444.out 4).trans rfl, (blk_cell BK444.out 5).trans rfl, (blk_cell BK444.out 6).trans rfl, (blk_cell BK444.out 7).trans rfl⟩ (fun hHeld => ?_)
      clear hK K
      refine norm_ (a' := ?_) ?_ ?_
      rotate_left
      ·show Act.put _ (some 34) _ = _
       simp only [Act.put, sI, sZ, sS, i64_w, i32_w]
       rfl
      refine pure_ (i := 3) (N := some 35) (v := ?_) (a' := ?_) q4 rfl rfl (any_of HT_.out (by kernel_rfl)) (fun _ _ _ h => h) (Or.inl ⟨by rfl, ?_⟩) ?_ ?_
      rotate_left
      ·intro w'
       go_simp
       with_reducible rfl
      rotate_left
      ·simp only [Act.put, sI, sZ, sS, i64_w, i32_w]
       rfl
      refine pure_ (i := 4) (N := some 36) (v := ?_) (a' := ?_) q5 rfl rfl (any_of HT_.out (by kernel_rfl)) (fun _ _ _ h => h) (Or.inl ⟨by rfl, ?_⟩) ?_ ?_
      rotate_left
      ·intro w'
       go_simp
       with_reducible rfl
      rotate_left
      ·simp only [Act.put, sI, sZ, sS, i64_w, i32_w]
       rfl
      refine pure_ (i := 5) (N := some 37) (v := undef) (a' := ?_) #[true, true, true, true, true, true, false, false, false, false, false, false, false, false, false, false, false, false, false, false, false, false, false, false] rfl rfl (any_of HT_.out (by kernel_rfl)) (fun _ _ _ h => h) (Or.inr ⟨by rfl, rfl⟩) ?_ ?_
      rotate_left
      ·simp only [Act.put, sI, sZ, sS, i64_w, i32_w]
       rfl
      refine pure_ (i := 6) (N := some 38) (v := undef) (a' := ?_) q7 rfl rfl (any_of HT_.out (by kernel_rfl)) (fun _ _ _ h => h) (Or.inr ⟨by rfl, rfl⟩) ?_ ?_
      rotate_left
      ·simp only [Act.put, sI, sZ, sS, i64_w, i32_w]
       rfl
      refine pure_ (i := 7) (N := some 39) (v := undef) (a' := ?_) q8 rfl rfl (any_of HT_.out (by kernel_rfl)) (fun _ _ _ h => h) (Or.inr ⟨by rfl, rfl⟩) ?_ ?_
      rotate_left
      ·simp only [Act.put, sI, sZ, sS, i64_w, i32_w]
       rfl
      refine pure_ (i := 8) (N := some 40) (v := undef) (a' := ?_) q9 rfl rfl (any_of HT_.out (by kernel_rfl)) (fun _ _ _ h => h) (Or.inr ⟨by rfl, rfl⟩) ?_ ?_
      rotate_left
      ·simp only [Act.put, sI, sZ, sS, i64_w, i32_w]
       rfl
      refine pure_ (i := 9) (N := some 41) (v := ?_) (a' := ?_) q10 rfl rfl (any_of HT_.out (by kernel_rfl)) (fun _ _ _ h => h) (Or.inl ⟨by rfl, ?_⟩) ?_ ?_
      rotate_left
      ·intro w'
       go_simp
       with_reducible rfl
      rotate_left
      ·simp only [Act.put, sI, sZ, sS, i64_w, i32_w]
       rfl
      refine pure_ (i := 10) (N := some 42) (v := ?_) (a' := ?_) q11 rfl rfl (any_of HT_.out (by kernel_rfl)) (fun _ _ _ h => h) (Or.inl ⟨by rfl, ?_⟩) ?_ ?_
      rotate_left
      ·intro w'
       go_simp
       with_reducible rfl
      rotate_left
      ·simp only [Act.put, sI, sZ, sS, i64_w, i32_w]
       rfl
      refine pure_ (i := 11) (N := some 43) (v := undef) (a' := ?_) q12 rfl rfl (any_of HT_.out (by kernel_rfl)) (fun _ _ _ h => h) (Or.inr ⟨by rfl, rfl⟩) ?_ ?_
      rotate_left
      ·simp only [Act.put, sI, sZ, sS, i64_w, i32_w]
       rfl
      refine pure_ (i := 12) (N := some 44) (v := undef) (a' := ?_) q13 rfl rfl (any_of HT_.out (by kernel_rfl)) (fun _ _ _ h => h) (Or.inr ⟨by rfl, rfl⟩) ?_ ?_
      rotate_left
      ·simp only [Act.put, sI, sZ, sS, i64_w, i32_w]
       rfl
      refine pure_ (i := 13) (N := some 45) (v := undef) (a' := ?_) q14 rfl rfl (any_of HT_.out (by kernel_rfl)) (fun _ _ _ h => h) (Or.inr ⟨by rfl, rfl⟩) ?_ ?_
      rotate_left
      ·simp only [Act.put, sI, sZ, sS, i64_w, i32_w]
       rfl
      refine pure_ (i := 14) (N := some 46) (v := undef) (a' := ?_) q15 rfl rfl (any_of HT_.out (by kernel_rfl)) (fun _ _ _ h => h) (Or.inr ⟨by rfl, rfl⟩) ?_ ?_
      rotate_left
      ·simp only [Act.put, sI, sZ, sS, i64_w, i32_w]
       rfl
      refine pure_ (i := 15) (N := some 47) (v := undef) (a' := ?_) q16 rfl rfl (any_of HT_.out (by kernel_rfl)) (fun _ _ _ h => h) (Or.inr ⟨by rfl, rfl⟩) ?_ ?_
      rotate_left
      ·simp only [Act.put, sI, sZ, sS, i64_w, i32_w]
       rfl
      refine pure_ (i := 16) (N := some 48) (v := ?_) (a' := ?_) q17 rfl rfl (any_of HT_.out (by kernel_rfl)) (fun _ _ _ h => h) (Or.inl ⟨by rfl, ?_⟩) ?_ ?_
      rotate_left
      ·intro w'
       go_simp
       with_reducible rfl
      rotate_left
      ·simp only [Act.put, sI, sZ, sS, i64_w, i32_w]
       rfl
      refine pure_ (i := 17) (N := some 49) (v := ?_) (a' := ?_) q18 rfl rfl (any_of HT_.out (by kernel_rfl)) (fun _ _ _ h => h) (Or.inl ⟨by rfl, ?_⟩) ?_ ?_
      rotate_left
      ·intro w'
       go_simp
       with_reducible rfl
      rotate_left
      ·simp only [Act.put, sI, sZ, sS, i64_w, i32_w]
       rfl
      refine pure_ (i := 18) (N := some 50) (v := undef) (a' := ?_) q19 rfl rfl (any_of HT_.out (by kernel_rfl)) (fun _ _ _ h => h) (Or.inr ⟨by rfl, rfl⟩) ?_ ?_
      rotate_left
      ·simp only [Act.put, sI, sZ, sS, i64_w, i32_w]
       rfl
      refine pure_ (i := 19) (N := some 51) (v := undef) (a' := ?_) q20 rfl rfl (any_of HT_.out (by kernel_rfl)) (fun _ _ _ h => h) (Or.inr ⟨by rfl, rfl⟩) ?_ ?_
      rotate_left
      ·simp only [Act.put, sI, sZ, sS, i64_w, i32_w]
       rfl
      refine pure_ (i := 20) (N := some 52) (v := undef) (a' := ?_) q21 rfl rfl (any_of HT_.out (by kernel_rfl)) (fun _ _ _ h => h) (Or.inr ⟨by rfl, rfl⟩) ?_ ?_
      rotate_left
      ·simp only [Act.put, sI, sZ, sS, i64_w, i32_w]
       rfl
      refine pure_ (i := 21) (N := some 53) (v := undef) (a' := ?_) q22 rfl rfl (any_of HT_.out (by kernel_rfl)) (fun _ _ _ h => h) (Or.inr ⟨by rfl, rfl⟩) ?_ ?_
      rotate_left
      ·simp only [Act.put, sI, sZ, sS, i64_w, i32_w]
       rfl
      refine pure_ (i := 22) (N := some 54) (v := undef) (a' := ?_) q23 rfl rfl (any_of HT_.out (by kernel_rfl)) (fun _ _ _ h => h) (Or.inr ⟨by rfl, rfl⟩) ?_ ?_
      rotate_left
      ·simp only [Act.put, sI, sZ, sS, i64_w, i32_w]
       rfl
      refine pure_ (i := 23) (N := some 55) (v := ?_) (a' := ?_) q24 rfl rfl (any_of HT_.out (by kernel_rfl)) (fun _ _ _ h => h) (Or.inl ⟨by rfl, ?_⟩) ?_ ?_
      rotate_left
      ·intro w'
       go_simp
       with_reducible rfl
      rotate_left
      ·simp only [Act.put, sI, sZ, sS, i64_w, i32_w]
       rfl
      refine done_ (done_of HT_.out (by kernel_rfl)) ?_
      try go_wp2
      go_meet
      case rel => exact ⟨_, (true), (by first | rfl | (simp; done) | (simp [*]; done)), H', ⟨by have := HJ2.out; first | omega | exact Nat.le_refl _⟩, ⟨by (with_reducible repeat (first | apply Kd.R_alloc | apply Kd.R_drewN | apply Kd.R_drew)); exact HO459.out⟩, ⟨by (with_reducible repeat (first | apply Kd.R_alloc | apply Kd.R_drewN | apply Kd.R_drew)); exact HO462.out⟩, ⟨by (with_reducible repeat (first | refine blk_drewN ?_ _ | refine blk_drew ?_ | refine blk_alloc ?_ _)); exact BK444.out⟩, ⟨by (with_reducible repeat (first | refine blk_drewN ?_ _ | refine blk_drew ?_ | refine blk_alloc ?_ _)); exact BK456.out⟩, ⟨by repeat (first | (with_reducible first | exact HB.out | apply below_alloc | apply pw_below_drewN | apply below_drew1 | refine below_set ?_ GE444.out | refine below_set ?_ GE456.out) | exact HB.out)⟩⟩
    case rest =>
     clear HC12
     try clear c2
     try clear p2
     try clear c3
     try clear c26
     try clear c26b0
     try clear c26b1
     try clear c28
     try clear c29
     try clear c30
     try clear c31
     try clear c32
     try clear c33
     try clear c34
     obtain ⟨kq, x55_11, rfl, HA, HJ11, HO_9, HO_10, BK444, BK456, HB⟩ := hcut
     cases kq with
     | zero => exact absurd HA.out (by simp [laws_FnNote.j1])
     | succ kj11 =>
      have H := HA.out
      clear HA
      simp only [laws_FnNote.j1] at H
      by_cases c53 : x55_11 = true
      ·subst c53
       have H1 : (some false) = some r := by rw [if_pos rfl] at H; exact H
       clear H
       have H := H1
       clear H1
       obtain rfl := Option.some.inj H
       exact absurd hT.out (by decide)
      ·replace c53 := Bool.eq_false_iff.mpr c53
       subst c53
       have H1 : (if t455 = 0 then ((impl_NoteBytes.f kj11 t447 t448 t449 t450 t451 t452 t453 t454).bind fun t479 => (if t479.toList = t446.toList then (if t445.toList = ([] : List UInt8) then (laws_FnNote.j2 kj11 t457 t460 false) else ((impl_NoteRead.f kj11 t445).bind fun bt480 => (if ((!(bt480.1 == t436) || ((!(bt480.2.1 == t437) || (!(bt480.2.2.1 == t438) || (!(bt480.2.2.2.1 == t439) || (!(bt480.2.2.2.2.1 == t440) || (!(bt480.2.2.2.2.2.1 == t441) || (!(bt480.2.2.2.2.2.2.1 == t442) || (!(bt480.2.2.2.2.2.2.2.1 == t443)))))))))) || (!(bt480.2.2.2.2.2.2.2.2 == 0))) = true then (laws_FnNote.j2 kj11 t457 t460 true) else (laws_FnNote.j2 kj11 t457 t460 (decide ((t445.size : Int) > 60)))))) else (laws_FnNote.j2 kj11 t457 t460 true))) else (if t445.toList = ([] : List UInt8) then (laws_FnNote.j2 kj11 t457 t460 false) else ((impl_NoteRead.f kj11 t445).bind fun bt489 => (if ((!(bt489.1 == t436) || ((!(bt489.2.1 == t437) || (!(bt489.2.2.1 == t438) || (!(bt489.2.2.2.1 == t439) || (!(bt489.2.2.2.2.1 == t440) || (!(bt489.2.2.2.2.2.1 == t441) || (!(bt489.2.2.2.2.2.2.1 == t442) || (!(bt489.2.2.2.2.2.2.2.1 == t443)))))))))) || (!(bt489.2.2.2.2.2.2.2.2 == 0))) = true then (laws_FnNote.j2 kj11 t457 t460 true) else (laws_FnNote.j2 kj11 t457 t460 (decide ((t445.size : Int) > 60))))))) = some r := by rw [if_neg (show ¬ (false = true) by decide)] at H; exact H
       clear H
       have H := H1
       clear H1
       have HC54 := Aside0.mk H
       clear H
       go_upto_region 11 with (fail)
       go_cut [81] (fun v81 wc => ∃ (kq : Nat) (x81_53 : Bool), v81 = .bool x81_53 ∧ Aside0 (laws_FnNote.j2 kq t457 t460 x81_53 = some r) ∧ Aside0 (kq ≤ kj11) ∧ Aside0 (Kd.R k24 24 wc w.heap.size (fun _ => True) (.slice Ao23 t457.length co23) t457) ∧ Aside0 (Kd.R Kd.string 9 wc w.heap.size (fun _ => True) v461 t460) ∧ Aside0 (wc.heap[gb444]? = some (.cells #[.int .i64 t436, .int .i64 t437, .int .i64 t438, .int .i64 t439, .int .i64 t440, .int .i64 t441, .int .i64 t442, .bool t443] 42 (0, 0))) ∧ Aside0 (wc.heap[gb456]? = some (.cells #[.int .i64 t447, .int .i64 t448, .int .i64 t449, .int .i64 t450, .int .i64 t451, .int .i64 t452, .int .i64 t453, .bool t454, .int .i64 t455] 46 (0, 0))) ∧ Aside0 (Below w.heap.size w wc))
       case first =>
        have H := HC54.out
        clear HC54
        by_cases c55 : t455 = 0
        ·rw [if_pos c55] at H
         have c55b0 : (t455 == 0) = true := beq_iff_eq.mpr c55
         have c55b1 : (t455 != 0) = false := bne_eq_false_iff_eq.mpr c55
         clear c55
         (first | rw [c55b0] | (simp only [i64_w, i32_w]; rw [c55b0]) | skip)
         replace H := Option.bind_eq_some_iff.mp H
         obtain ⟨t479, A560, H⟩ := H
         try dsimp only at H
         have A56 := Aside0.mk A560
         clear A560
         by_cases c57 : t479.toList = t446.toList
         ·rw [if_pos c57] at H
          have c57b0 : (t479.toList == t446.toList) = true := beq_iff_eq.mpr c57
          have c57b1 : (t479.toList != t446.toList) = false := bne_eq_false_iff_eq.mpr c57
          clear c57
          by_cases c58 : t445.toList = ([] : List UInt8)
          ·rw [if_pos c58] at H
           have c58b0 : (t445.toList == ([] : List UInt8)) = true := beq_iff_eq.mpr c58
           have c58b1 : (t445.toList != ([] : List UInt8)) = false := bne_eq_false_iff_eq.mpr c58
           clear c58
           have H' := Aside0.mk H
           clear H
           try go_wp2
           have n0_ := Aside0.mk (Kd.R_drew HO_9.out)
           have n1_ := Aside0.mk (Kd.R_drew HO_10.out)
           have n2_ := Aside0.mk (blk_drew BK444.out)
           have n3_ := Aside0.mk (blk_drew BK456.out)
           have n4_ := Aside0.mk (below_drew1 HB.out)
           clear HO_9
           clear HO_10
           clear BK444
           clear BK456
           clear HB
           have HO_9 := n0_
           have HO_10 := n1_
           have BK444 := n2_
           have BK456 := n3_
           have HB := n4_
           clear n0_ n1_ n2_ n3_ n4_
           refine start_ (n := 26) (S := fun w' => w'.cell? ⟨gb456, 0, none⟩ = some (.int .i64 t447) ∧ w'.cell? ⟨gb456, 1, none⟩ = some (.int .i64 t448) ∧ w'.cell? ⟨gb456, 2, none⟩ = some (.int .i64 t449) ∧ w'.cell? ⟨gb456, 3, none⟩ = some (.int .i64 t450) ∧ w'.cell? ⟨gb456, 4, none⟩ = some (.int .i64 t451) ∧ w'.cell? ⟨gb456, 5, none⟩ = some (.int .i64 t452) ∧ w'.cell? ⟨gb456, 6, none⟩ = some (.int .i64 t453) ∧ w'.cell? ⟨gb456, 7, none⟩ = some (.bool t454) ∧ w'.cell? ⟨gb456, 8, none⟩ = some (.int .i64 t455)) (ds := []) q25 (by kernel_rfl) rfl rfl ⟨(blk_cell BK456.out 0).trans rfl, (blk_cell BK456.out 1).trans rfl, (blk_cell BK456.out 2).trans rfl, (blk_cell BK456.out 3).trans rfl, (blk_cell BK456.out 4).trans rfl, (blk_cell BK456.out 5).trans rfl, (blk_cell BK456.out 6).trans rfl, (blk_cell BK456.out 7).trans rfl, (blk_cell BK456.out 8).trans rfl⟩ (fun hHeld => ?_); refine with_tabW laws_FnNote.tab11 laws_FnNote.bits11 (fun HT_ HW_ => ?_)
           generalize wc.drew = w59 at HO_9 HO_10 BK444 BK456 HB hHeld ⊢
           refine pure_ (i := 0) (N := some 56) (v := ?_) (a' := ?_) q26 rfl rfl (any_of HT_.out (by kernel_rfl)) (fun _ _ _ h => h) (Or.inl ⟨by rfl, ?_⟩) ?_ ?_
           rotate_left
           ·intro w'
            go_simp
            with_reducible rfl
           rotate_left
           ·simp only [Act.put, sI, sZ, sS, i64_w, i32_w]
            rfl
           refine take_ (i := 1) (N := some 57) (v := ?_) (a' := ?_) q27 rfl rfl (take_ofW HT_.out HW_.out (by kernel_rfl)) (fun _ _ _ h => h) (Or.inl ⟨by rfl, ?_⟩) hHeld ?_ ?_
           rotate_left
           ·rintro w' ⟨s0, s1, s2, s3, s4, s5, s6, s7, s8⟩
            go_simp
            with_reducible rfl
           rotate_left
           ·simp only [Act.put, sI, sZ, sS, i64_w, i32_w]
            rfl
           refine pure_ (i := 2) (N := some 58) (v := ?_) (a' := ?_) q28 rfl rfl (any_of HT_.out (by kernel_rfl)) (fun _ _ _ h => h) (Or.inl ⟨by rfl, ?_⟩) ?_ ?_
           rotate_left
           ·intro w'
            go_simp
            with_reducible rfl
           rotate_left
           ·simp only [Act.put, sI, sZ, sS, i64_w, i32_w]
            rfl
           refine pure_ (i := 3) (N := some 59) (v := ?_) (a' := ?_) q29 rfl rfl (any_of HT_.out (by kernel_rfl)) (fun _ _ _ h => h) (Or.inl ⟨by rfl, ?_⟩) ?_ ?_
           rotate_left
           ·intro w'
            go_simp
            with_reducible rfl
           rotate_left
           ·simp only [Act.put, sI, sZ, sS, i64_w, i32_w]
            rfl
           refine pure_ (i := 4) (N := some 60) (v := ?_) (a' := ?_) q30 rfl rfl (any_of HT_.out (by kernel_rfl)) (fun _ _ _ h => h) (Or.inl ⟨by rfl, ?_⟩) ?_ ?_
           rotate_left
           ·intro w'
            go_simp
            with_reducible rfl
           rotate_left
           ·simp only [Act.put, sI, sZ, sS, i64_w, i32_w]
            rfl
           refine pure_ (i := 7) (N := some 63) (v := ?_) (a' := ?_) q31 rfl rfl (any_of HT_.out (by kernel_rfl)) (fun _ _ _ h => h) (Or.inl ⟨by rfl, ?_⟩) ?_ ?_
           rotate_left
           ·intro w'
            go_simp
            with_reducible rfl
           rotate_left
           ·simp only [Act.put, sI, sZ, sS, i64_w, i32_w]
            rfl
           refine take_ (i := 5) (N := some 61) (v := ?_) (a' := ?_) q32 rfl rfl (take_ofW HT_.out HW_.out (by kernel_rfl)) (fun _ _ _ h => h) (Or.inl ⟨by rfl, ?_⟩) hHeld ?_ ?_
           rotate_left
           ·rintro w' ⟨s0, s1, s2, s3, s4, s5, s6, s7, s8⟩
            go_simp
            with_reducible rfl
           rotate_left
           ·simp only [Act.put, sI, sZ, sS, i64_w, i32_w]
            rfl
           refine one_ (i := 6) (N := some 62) q33 rfl rfl (one_of HT_.out (by kernel_rfl)) (by decide) (fun K hK => ?_)
           refine goes_ Try.func23 (by kernel_rfl) rfl #[.agg #[.int .i64 t447, .int .i64 t448, .int .i64 t449, .int .i64 t450, .int .i64 t451, .int .i64 t452, .int .i64 t453, .bool t454]] (by rfl) rfl rfl (by (try simp only [mA, mC, mN]); first | done | rfl | (simp only [List.length_drop, List.length_take]; rfl)) ?_
           with_reducible refine (impl_NoteBytes.calls kj11 t447 t448 t449 t450 t451 t452 t453 t454 t479 _ A56.out).mono ?_
           rintro e w60 ⟨rfl, hb⟩
           refine ⟨_, rfl, ?_⟩
           have n0_ := Aside0.mk (Kd.R_below (by (with_reducible repeat (first | apply Kd.R_alloc | apply Kd.R_drewN | apply Kd.R_drew)); exact HO_9.out) hb)
           have n1_ := Aside0.mk (Kd.R_below (by (with_reducible repeat (first | apply Kd.R_alloc | apply Kd.R_drewN | apply Kd.R_drew)); exact HO_10.out) hb)
           have n2_ := Aside0.mk (blk_below (g := gb444) (by (with_reducible repeat (first | refine blk_drewN ?_ _ | refine blk_drew ?_ | refine blk_alloc ?_ _)); exact BK444.out) hb)
           have n3_ := Aside0.mk (blk_below (g := gb456) (by (with_reducible repeat (first | refine blk_drewN ?_ _ | refine blk_drew ?_ | refine blk_alloc ?_ _)); exact BK456.out) hb)
           have n4_ := Aside0.mk (below_step (by repeat (first | (with_reducible first | exact HB.out | apply below_alloc | apply pw_below_drewN | apply below_drew1 | refine below_set ?_ GE444.out | refine below_set ?_ GE456.out) | exact HB.out)) hb)
           clear HO_9
           clear HO_10
           clear BK444
           clear BK456
           clear HB
           have HO_9 := n0_
           have HO_10 := n1_
           have BK444 := n2_
           have BK456 := n3_
           have HB := n4_
           clear n0_ n1_ n2_ n3_ n4_
           (try clear hb)
           (try clear hb2)
           (try clear hk)
           (try clear hi)
           refine hK.out _ _ ⟨(blk_cell BK456.out 0).trans rfl, (blk_cell BK456.out 1).trans rfl, (blk_cell BK456.out 2).trans rfl, (blk_cell BK456.out 3).trans rfl, (blk_cell BK456.out 4).trans rfl, (blk_cell BK456.out 5).trans rfl, (blk_cell BK456.out 6).trans rfl, (blk_cell BK456.out 7).trans rfl, (blk_cell BK456.out 8).trans rfl⟩ (fun hHeld => ?_)
           clear hK K
           refine norm_ (a' := ?_) ?_ ?_
           rotate_left
           ·show Act.put _ (some 62) _ = _
            simp only [Act.put, sI, sZ, sS, i64_w, i32_w]
            rfl
           refine pure_ (i := 8) (N := some 64) (v := ?_) (a' := ?_) q34 rfl rfl (any_of HT_.out (by kernel_rfl)) (fun _ _ _ h => h) (Or.inl ⟨by rfl, ?_⟩) ?_ ?_
           rotate_left
           ·intro w'
            go_simp
            with_reducible rfl
           rotate_left
           ·simp only [Act.put, sI, sZ, sS, i64_w, i32_w]
            rfl
           refine pure_ (i := 9) (N := some 65) (v := ?_) (a' := ?_) q35 rfl rfl (any_of HT_.out (by kernel_rfl)) (fun _ _ _ h => h) (Or.inl ⟨by rfl, ?_⟩) ?_ ?_
           rotate_left
           ·intro w'
            go_simp
            with_reducible rfl
           rotate_left
           ·simp only [Act.put, sI, sZ, sS, i64_w, i32_w]
            rfl
           refine pure_ (i := 10) (N := some 66) (v := ?_) (a' := ?_) q36 rfl rfl (any_of HT_.out (by kernel_rfl)) (fun _ _ _ h => h) (Or.inl ⟨by rfl, ?_⟩) ?_ ?_
           rotate_left
           ·intro w'
            go_simp
            with_reducible rfl
           rotate_left
           ·simp only [Act.put, sI, sZ, sS, i64_w, i32_w]
            rfl
           refine pure_ (i := 11) (N := some 67) (v := ?_) (a' := ?_) q37 rfl rfl (any_of HT_.out (by kernel_rfl)) (fun _ _ _ h => h) (Or.inl ⟨by rfl, ?_⟩) ?_ ?_
           rotate_left
           ·intro w'
            go_simp
            with_reducible rfl
           rotate_left
           ·simp only [Act.put, sI, sZ, sS, i64_w, i32_w]
            rfl
           refine pure_ (i := 12) (N := some 68) (v := ?_) (a' := ?_) q38 rfl rfl (any_of HT_.out (by kernel_rfl)) (fun _ _ _ h => h) (Or.inl ⟨by rfl, ?_⟩) ?_ ?_
           rotate_left
           ·intro w'
            go_simp
            with_reducible rfl
           rotate_left
           ·simp only [Act.put, sI, sZ, sS, i64_w, i32_w]
            rfl
           refine pure_ (i := 13) (N := some 69) (v := ?_) (a' := ?_) q39 rfl rfl (any_of HT_.out (by kernel_rfl)) (fun _ _ _ h => h) (Or.inl ⟨by rfl, ?_⟩) ?_ ?_
           rotate_left
           ·intro w'
            go_simp
            with_reducible rfl
           rotate_left
           ·simp only [Act.put, sI, sZ, sS, i64_w, i32_w]
            rfl
           refine pure_ (i := 14) (N := some 70) (v := undef) (a' := ?_) q40 rfl rfl (any_of HT_.out (by kernel_rfl)) (fun _ _ _ h => h) (Or.inr ⟨by rfl, rfl⟩) ?_ ?_
           rotate_left
           ·simp only [Act.put, sI, sZ, sS, i64_w, i32_w]
            rfl
           refine pure_ (i := 15) (N := some 71) (v := undef) (a' := ?_) q41 rfl rfl (any_of HT_.out (by kernel_rfl)) (fun _ _ _ h => h) (Or.inr ⟨by rfl, rfl⟩) ?_ ?_
           rotate_left
           ·simp only [Act.put, sI, sZ, sS, i64_w, i32_w]
            rfl
           refine pure_ (i := 16) (N := some 72) (v := undef) (a' := ?_) q42 rfl rfl (any_of HT_.out (by kernel_rfl)) (fun _ _ _ h => h) (Or.inr ⟨by rfl, rfl⟩) ?_ ?_
           rotate_left
           ·simp only [Act.put, sI, sZ, sS, i64_w, i32_w]
            rfl
           refine pure_ (i := 17) (N := some 73) (v := undef) (a' := ?_) q43 rfl rfl (any_of HT_.out (by kernel_rfl)) (fun _ _ _ h => h) (Or.inr ⟨by rfl, rfl⟩) ?_ ?_
           rotate_left
           ·simp only [Act.put, sI, sZ, sS, i64_w, i32_w]
            rfl
           refine pure_ (i := 18) (N := some 74) (v := undef) (a' := ?_) q44 rfl rfl (any_of HT_.out (by kernel_rfl)) (fun _ _ _ h => h) (Or.inr ⟨by rfl, rfl⟩) ?_ ?_
           rotate_left
           ·simp only [Act.put, sI, sZ, sS, i64_w, i32_w]
            rfl
           refine pure_ (i := 19) (N := some 75) (v := undef) (a' := ?_) q45 rfl rfl (any_of HT_.out (by kernel_rfl)) (fun _ _ _ h => h) (Or.inr ⟨by rfl, rfl⟩) ?_ ?_
           rotate_left
           ·simp only [Act.put, sI, sZ, sS, i64_w, i32_w]
            rfl
           refine pure_ (i := 20) (N := some 76) (v := undef) (a' := ?_) q46 rfl rfl (any_of HT_.out (by kernel_rfl)) (fun _ _ _ h => h) (Or.inr ⟨by rfl, rfl⟩) ?_ ?_
           rotate_left
           ·simp only [Act.put, sI, sZ, sS, i64_w, i32_w]
            rfl
           refine pure_ (i := 21) (N := some 77) (v := undef) (a' := ?_) q47 rfl rfl (any_of HT_.out (by kernel_rfl)) (fun _ _ _ h => h) (Or.inr ⟨by rfl, rfl⟩) ?_ ?_
           rotate_left
           ·simp only [Act.put, sI, sZ, sS, i64_w, i32_w]
            rfl
           refine pure_ (i := 22) (N := some 78) (v := undef) (a' := ?_) q48 rfl rfl (any_of HT_.out (by kernel_rfl)) (fun _ _ _ h => h) (Or.inr ⟨by rfl, rfl⟩) ?_ ?_
           rotate_left
           ·simp only [Act.put, sI, sZ, sS, i64_w, i32_w]
            rfl
           refine pure_ (i := 23) (N := some 79) (v := undef) (a' := ?_) q49 rfl rfl (any_of HT_.out (by kernel_rfl)) (fun _ _ _ h => h) (Or.inr ⟨by rfl, rfl⟩) ?_ ?_
           rotate_left
           ·simp only [Act.put, sI, sZ, sS, i64_w, i32_w]
            rfl
           refine pure_ (i := 24) (N := some 80) (v := ?_) (a' := ?_) q50 rfl rfl (any_of HT_.out (by kernel_rfl)) (fun _ _ _ h => h) (Or.inl ⟨by rfl, ?_⟩) ?_ ?_
           rotate_left
           ·intro w'
            go_simp
            with_reducible rfl
           rotate_left
           ·simp only [Act.put, sI, sZ, sS, i64_w, i32_w]
            rfl
           refine pure_ (i := 25) (N := some 81) (v := ?_) (a' := ?_) q51 rfl rfl (any_of HT_.out (by kernel_rfl)) (fun _ _ _ h => h) (Or.inl ⟨by rfl, ?_⟩) ?_ ?_
           rotate_left
           ·intro w'
            go_simp
            with_reducible rfl
           rotate_left
           ·simp only [Act.put, sI, sZ, sS, i64_w, i32_w]
            rfl
           refine done_ (done_of HT_.out (by kernel_rfl)) ?_
           try go_wp2
           go_meet
           case rel => exact ⟨_, (false), (by first | rfl | (simp; done) | (simp [*]; done)), H', ⟨by have := HJ2.out; have := HJ11.out; first | omega | exact Nat.le_refl _⟩, ⟨by (with_reducible repeat (first | apply Kd.R_alloc | apply Kd.R_drewN | apply Kd.R_drew)); exact HO_9.out⟩, ⟨by (with_reducible repeat (first | apply Kd.R_alloc | apply Kd.R_drewN | apply Kd.R_drew)); exact HO_10.out⟩, ⟨by (with_reducible repeat (first | refine blk_drewN ?_ _ | refine blk_drew ?_ | refine blk_alloc ?_ _)); exact BK444.out⟩, ⟨by (with_reducible repeat (first | refine blk_drewN ?_ _ | refine blk_drew ?_ | refine blk_alloc ?_ _)); exact BK456.out⟩, ⟨by repeat (first | (with_reducible first | exact HB.out | apply below_alloc | apply pw_below_drewN | apply below_drew1 | refine below_set ?_ GE444.out | refine below_set ?_ GE456.out) | exact HB.out)⟩⟩
          ·rw [if_neg c58] at H
           have c58b0 : (t445.toList == ([] : List UInt8)) = false := beq_eq_false_iff_ne.mpr c58
           have c58b1 : (t445.toList != ([] : List UInt8)) = true := bne_iff_ne.mpr c58
           replace H := Option.bind_eq_some_iff.mp H
           obtain ⟨⟨t480, t481, t482, t483, t484, t485, t486, t487, t488⟩, A610, H⟩ := H
           try dsimp only at H
           have A61 := Aside0.mk A610
           clear A610
           by_cases c62 : ((!(t480 == t436) || ((!(t481 == t437) || (!(t482 == t438) || (!(t483 == t439) || (!(t484 == t440) || (!(t485 == t441) || (!(t486 == t442) || (!(t487 == t443)))))))))) || (!(t488 == 0))) = true
           ·rw [if_pos c62] at H
            have c62b0 : ((!(t480 == t436) || ((!(t481 == t437) || (!(t482 == t438) || (!(t483 == t439) || (!(t484 == t440) || (!(t485 == t441) || (!(t486 == t442) || (!(t487 == t443)))))))))) || (!(t488 == 0))) = true := c62
            clear c62
            have H' := Aside0.mk H
            clear H
            try go_wp2
            have n0_ := Aside0.mk (Kd.R_drew HO_9.out)
            have n1_ := Aside0.mk (Kd.R_drew HO_10.out)
            have n2_ := Aside0.mk (blk_drew BK444.out)
            have n3_ := Aside0.mk (blk_drew BK456.out)
            have n4_ := Aside0.mk (below_drew1 HB.out)
            clear HO_9
            clear HO_10
            clear BK444
            clear BK456
            clear HB
            have HO_9 := n0_
            have HO_10 := n1_
            have BK444 := n2_
            have BK456 := n3_
            have HB := n4_
            clear n0_ n1_ n2_ n3_ n4_
            refine start_ (n := 26) (S := fun w' => w'.cell? ⟨gb456, 0, none⟩ = some (.int .i64 t447) ∧ w'.cell? ⟨gb456, 1, none⟩ = some (.int .i64 t448) ∧ w'.cell? ⟨gb456, 2, none⟩ = some (.int .i64 t449) ∧ w'.cell? ⟨gb456, 3, none⟩ = some (.int .i64 t450) ∧ w'.cell? ⟨gb456, 4, none⟩ = some (.int .i64 t451) ∧ w'.cell? ⟨gb456, 5, none⟩ = some (.int .i64 t452) ∧ w'.cell? ⟨gb456, 6, none⟩ = some (.int .i64 t453) ∧ w'.cell? ⟨gb456, 7, none⟩ = some (.bool t454) ∧ w'.cell? ⟨gb456, 8, none⟩ = some (.int .i64 t455) ∧ w'.cell? ⟨gb444, 0, none⟩ = some (.int .i64 t436) ∧ w'.cell? ⟨gb444, 1, none⟩ = some (.int .i64 t437) ∧ w'.cell? ⟨gb444, 2, none⟩ = some (.int .i64 t438) ∧ w'.cell? ⟨gb444, 3, none⟩ = some (.int .i64 t439) ∧ w'.cell? ⟨gb444, 4, none⟩ = some (.int .i64 t440) ∧ w'.cell? ⟨gb444, 5, none⟩ = some (.int .i64 t441) ∧ w'.cell? ⟨gb444, 6, none⟩ = some (.int .i64 t442) ∧ w'.cell? ⟨gb444, 7, none⟩ = some (.bool t443)) (ds := []) q25 (by kernel_rfl) rfl rfl ⟨(blk_cell BK456.out 0).trans rfl, (blk_cell BK456.out 1).trans rfl, (blk_cell BK456.out 2).trans rfl, (blk_cell BK456.out 3).trans rfl, (blk_cell BK456.out 4).trans rfl, (blk_cell BK456.out 5).trans rfl, (blk_cell BK456.out 6).trans rfl, (blk_cell BK456.out 7).trans rfl, (blk_cell BK456.out 8).trans rfl, (blk_cell BK444.out 0).trans rfl, (blk_cell BK444.out 1).trans rfl, (blk_cell BK444.out 2).trans rfl, (blk_cell BK444.out 3).trans rfl, (blk_cell BK444.out 4).trans rfl, (blk_cell BK444.out 5).trans rfl, (blk_cell BK444.out 6).trans rfl, (blk_cell BK444.out 7).trans rfl⟩ (fun hHeld => ?_); refine with_tabW laws_FnNote.tab11 laws_FnNote.bits11 (fun HT_ HW_ => ?_)
            generalize wc.drew = w63 at HO_9 HO_10 BK444 BK456 HB hHeld ⊢
            refine pure_ (i := 0) (N := some 56) (v := ?_) (a' := ?_) q26 rfl rfl (any_of HT_.out (by kernel_rfl)) (fun _ _ _ h => h) (Or.inl ⟨by rfl, ?_⟩) ?_ ?_
            rotate_left
            ·intro w'
             go_simp
             with_reducible rfl
            rotate_left
            ·simp only [Act.put, sI, sZ, sS, i64_w, i32_w]
             rfl
            refine take_ (i := 1) (N := some 57) (v := ?_) (a' := ?_) q27 rfl rfl (take_ofW HT_.out HW_.out (by kernel_rfl)) (fun _ _ _ h => h) (Or.inl ⟨by rfl, ?_⟩) hHeld ?_ ?_
            rotate_left
            ·rintro w' ⟨s0, s1, s2, s3, s4, s5, s6, s7, s8, s9, s10, s11, s12, s13, s14, s15, s16⟩
             go_simp
             with_reducible rfl
            rotate_left
            ·simp only [Act.put, sI, sZ, sS, i64_w, i32_w]
             rfl
            refine pure_ (i := 2) (N := some 58) (v := ?_) (a' := ?_) q28 rfl rfl (any_of HT_.out (by kernel_rfl)) (fun _ _ _ h => h) (Or.inl ⟨by rfl, ?_⟩) ?_ ?_
            rotate_left
            ·intro w'
             go_simp
             with_reducible rfl
            rotate_left
            ·simp only [Act.put, sI, sZ, sS, i64_w, i32_w]
             rfl
            refine pure_ (i := 3) (N := some 59) (v := ?_) (a' := ?_) q29 rfl rfl (any_of HT_.out (by kernel_rfl)) (fun _ _ _ h => h) (Or.inl ⟨by rfl, ?_⟩) ?_ ?_
            rotate_left
            ·intro w'
             go_simp
             with_reducible rfl
            rotate_left
            ·simp only [Act.put, sI, sZ, sS, i64_w, i32_w]
             rfl
            refine pure_ (i := 4) (N := some 60) (v := ?_) (a' := ?_) q30 rfl rfl (any_of HT_.out (by kernel_rfl)) (fun _ _ _ h => h) (Or.inl ⟨by rfl, ?_⟩) ?_ ?_
            rotate_left
            ·intro w'
             go_simp
             with_reducible rfl
            rotate_left
            ·simp only [Act.put, sI, sZ, sS, i64_w, i32_w]
             rfl
            refine pure_ (i := 7) (N := some 63) (v := ?_) (a' := ?_) q31 rfl rfl (any_of HT_.out (by kernel_rfl)) (fun _ _ _ h => h) (Or.inl ⟨by rfl, ?_⟩) ?_ ?_
            rotate_left
            ·intro w'
             go_simp
             with_reducible rfl
            rotate_left
            ·simp only [Act.put, sI, sZ, sS, i64_w, i32_w]
             rfl
            refine take_ (i := 5) (N := some 61) (v := ?_) (a' := ?_) q32 rfl rfl (take_ofW HT_.out HW_.out (by kernel_rfl)) (fun _ _ _ h => h) (Or.inl ⟨by rfl, ?_⟩) hHeld ?_ ?_
            rotate_left
            ·rintro w' ⟨s0, s1, s2, s3, s4, s5, s6, s7, s8, s9, s10, s11, s12, s13, s14, s15, s16⟩
             go_simp
             with_reducible rfl
            rotate_left
            ·simp only [Act.put, sI, sZ, sS, i64_w, i32_w]
             rfl
            refine one_ (i := 6) (N := some 62) q33 rfl rfl (one_of HT_.out (by kernel_rfl)) (by decide) (fun K hK => ?_)
            refine goes_ Try.func23 (by kernel_rfl) rfl #[.agg #[.int .i64 t447, .int .i64 t448, .int .i64 t449, .int .i64 t450, .int .i64 t451, .int .i64 t452, .int .i64 t453, .bool t454]] (by rfl) rfl rfl (by (try simp only [mA, mC, mN]); first | done | rfl | (simp only [List.length_drop, List.length_take]; rfl)) ?_
            with_reducible refine (impl_NoteBytes.calls kj11 t447 t448 t449 t450 t451 t452 t453 t454 t479 _ A56.out).mono ?_
            rintro e w64 ⟨rfl, hb⟩
            refine ⟨_, rfl, ?_⟩
            have n0_ := Aside0.mk (Kd.R_below (by (with_reducible repeat (first | apply Kd.R_alloc | apply Kd.R_drewN | apply Kd.R_drew)); exact HO_9.out) hb)
            have n1_ := Aside0.mk (Kd.R_below (by (with_reducible repeat (first | apply Kd.R_alloc | apply Kd.R_drewN | apply Kd.R_drew)); exact HO_10.out) hb)
            have n2_ := Aside0.mk (blk_below (g := gb444) (by (with_reducible repeat (first | refine blk_drewN ?_ _ | refine blk_drew ?_ | refine blk_alloc ?_ _)); exact BK444.out) hb)
            have n3_ := Aside0.mk (blk_below (g := gb456) (by (with_reducible repeat (first | refine blk_drewN ?_ _ | refine blk_drew ?_ | refine blk_alloc ?_ _)); exact BK456.out) hb)
            have n4_ := Aside0.mk (below_step (by repeat (first | (with_reducible first | exact HB.out | apply below_alloc | apply pw_below_drewN | apply below_drew1 | refine below_set ?_ GE444.out | refine below_set ?_ GE456.out) | exact HB.out)) hb)
            clear HO_9
            clear HO_10
            clear BK444
            clear BK456
            clear HB
            have HO_9 := n0_
            have HO_10 := n1_
            have BK444 := n2_
            have BK456 := n3_
            have HB := n4_
            clear n0_ n1_ n2_ n3_ n4_
            (try clear hb)
            (try clear hb2)
            (try clear hk)
            (try clear hi)
            refine hK.out _ _ ⟨(blk_cell BK456.out 0).trans rfl, (blk_cell BK456.out 1).trans rfl, (blk_cell BK456.out 2).trans rfl, (blk_cell BK456.out 3).trans rfl, (blk_cell BK456.out 4).trans rfl, (blk_cell BK456.out 5).trans rfl, (blk_cell BK456.out 6).trans rfl, (blk_cell BK456.out 7).trans rfl, (blk_cell BK456.out 8).trans rfl, (blk_cell BK444.out 0).trans rfl, (blk_cell BK444.out 1).trans rfl, (blk_cell BK444.out 2).trans rfl, (blk_cell BK444.out 3).trans rfl, (blk_cell BK444.out 4).trans rfl, (blk_cell BK444.out 5).trans rfl, (blk_cell BK444.out 6).trans rfl, (blk_cell BK444.out 7).trans rfl⟩ (fun hHeld => ?_)
            clear hK K
            refine norm_ (a' := ?_) ?_ ?_
            rotate_left
            ·show Act.put _ (some 62) _ = _
             simp only [Act.put, sI, sZ, sS, i64_w, i32_w]
             rfl
            refine pure_ (i := 8) (N := some 64) (v := ?_) (a' := ?_) q34 rfl rfl (any_of HT_.out (by kernel_rfl)) (fun _ _ _ h => h) (Or.inl ⟨by rfl, ?_⟩) ?_ ?_
            rotate_left
            ·intro w'
             go_simp
             with_reducible rfl
            rotate_left
            ·simp only [Act.put, sI, sZ, sS, i64_w, i32_w]
             rfl
            refine pure_ (i := 9) (N := some 65) (v := ?_) (a' := ?_) q35 rfl rfl (any_of HT_.out (by kernel_rfl)) (fun _ _ _ h => h) (Or.inl ⟨by rfl, ?_⟩) ?_ ?_
            rotate_left
            ·intro w'
             go_simp
             with_reducible rfl
            rotate_left
            ·simp only [Act.put, sI, sZ, sS, i64_w, i32_w]
             rfl
            refine pure_ (i := 10) (N := some 66) (v := ?_) (a' := ?_) q36 rfl rfl (any_of HT_.out (by kernel_rfl)) (fun _ _ _ h => h) (Or.inl ⟨by rfl, ?_⟩) ?_ ?_
            rotate_left
            ·intro w'
             go_simp
             with_reducible rfl
            rotate_left
            ·simp only [Act.put, sI, sZ, sS, i64_w, i32_w]
             rfl
            refine pure_ (i := 11) (N := some 67) (v := ?_) (a' := ?_) q37 rfl rfl (any_of HT_.out (by kernel_rfl)) (fun _ _ _ h => h) (Or.inl ⟨by rfl, ?_⟩) ?_ ?_
            rotate_left
            ·intro w'
             go_simp
             with_reducible rfl
            rotate_left
            ·simp only [Act.put, sI, sZ, sS, i64_w, i32_w]
             rfl
            refine pure_ (i := 12) (N := some 68) (v := ?_) (a' := ?_) q38 rfl rfl (any_of HT_.out (by kernel_rfl)) (fun _ _ _ h => h) (Or.inl ⟨by rfl, ?_⟩) ?_ ?_
            rotate_left
            ·intro w'
             go_simp
             with_reducible rfl
            rotate_left
            ·simp only [Act.put, sI, sZ, sS, i64_w, i32_w]
             rfl
            refine pure_ (i := 13) (N := some 69) (v := ?_) (a' := ?_) q39 rfl rfl (any_of HT_.out (by kernel_rfl)) (fun _ _ _ h => h) (Or.inl ⟨by rfl, ?_⟩) ?_ ?_
            rotate_left
            ·intro w'
             go_simp
             with_reducible rfl
            rotate_left
            ·simp only [Act.put, sI, sZ, sS, i64_w, i32_w]
             rfl
            refine pure_ (i := 14) (N := some 70) (v := ?_) (a' := ?_) q40 rfl rfl (any_of HT_.out (by kernel_rfl)) (fun _ _ _ h => h) (Or.inl ⟨by rfl, ?_⟩) ?_ ?_
            rotate_left
            ·intro w'
             go_simp
             with_reducible rfl
            rotate_left
            ·simp only [Act.put, sI, sZ, sS, i64_w, i32_w]
             rfl
            refine take_ (i := 16) (N := some 72) (v := ?_) (a' := ?_) q52 rfl rfl (take_ofW HT_.out HW_.out (by kernel_rfl)) (fun _ _ _ h => h) (Or.inl ⟨by rfl, ?_⟩) hHeld ?_ ?_
            rotate_left
            ·rintro w' ⟨s0, s1, s2, s3, s4, s5, s6, s7, s8, s9, s10, s11, s12, s13, s14, s15, s16⟩
             go_simp
             with_reducible rfl
            rotate_left
            ·simp only [Act.put, sI, sZ, sS, i64_w, i32_w]
             rfl
            refine pure_ (i := 17) (N := some 73) (v := ?_) (a' := ?_) q53 rfl rfl (any_of HT_.out (by kernel_rfl)) (fun _ _ _ h => h) (Or.inl ⟨by rfl, ?_⟩) ?_ ?_
            rotate_left
            ·intro w'
             go_simp
             with_reducible rfl
            rotate_left
            ·simp only [Act.put, sI, sZ, sS, i64_w, i32_w]
             rfl
            refine one_ (i := 15) (N := some 71) q43 rfl rfl (one_of HT_.out (by kernel_rfl)) (by decide) (fun K hK => ?_)
            refine goes_ Try.func25 (by kernel_rfl) rfl #[.string t445] (by rfl) rfl rfl (by (try simp only [mA, mC, mN]); first | done | rfl | (simp only [List.length_drop, List.length_take]; rfl)) ?_
            with_reducible refine (impl_NoteRead.calls kj11 t445 t480 t481 t482 t483 t484 t485 t486 t487 t488 _ A61.out).mono ?_
            rintro e w65 ⟨rfl, hb⟩
            refine ⟨_, rfl, ?_⟩
            have n0_ := Aside0.mk (Kd.R_below (by (with_reducible repeat (first | apply Kd.R_alloc | apply Kd.R_drewN | apply Kd.R_drew)); exact HO_9.out) hb)
            have n1_ := Aside0.mk (Kd.R_below (by (with_reducible repeat (first | apply Kd.R_alloc | apply Kd.R_drewN | apply Kd.R_drew)); exact HO_10.out) hb)
            have n2_ := Aside0.mk (blk_below (g := gb444) (by (with_reducible repeat (first | refine blk_drewN ?_ _ | refine blk_drew ?_ | refine blk_alloc ?_ _)); exact BK444.out) hb)
            have n3_ := Aside0.mk (blk_below (g := gb456) (by (with_reducible repeat (first | refine blk_drewN ?_ _ | refine blk_drew ?_ | refine blk_alloc ?_ _)); exact BK456.out) hb)
            have n4_ := Aside0.mk (below_step (by repeat (first | (with_reducible first | exact HB.out | apply below_alloc | apply pw_below_drewN | apply below_drew1 | refine below_set ?_ GE444.out | refine below_set ?_ GE456.out) | exact HB.out)) hb)
            clear HO_9
            clear HO_10
            clear BK444
            clear BK456
            clear HB
            have HO_9 := n0_
            have HO_10 := n1_
            have BK444 := n2_
            have BK456 := n3_
            have HB := n4_
            clear n0_ n1_ n2_ n3_ n4_
            (try clear hb)
            (try clear hb2)
            (try clear hk)
            (try clear hi)
            refine hK.out _ _ ⟨(blk_cell BK456.out 0).trans rfl, (blk_cell BK456.out 1).trans rfl, (blk_cell BK456.out 2).trans rfl, (blk_cell BK456.out 3).trans rfl, (blk_cell BK456.out 4).trans rfl, (blk_cell BK456.out 5).trans rfl, (blk_cell BK456.out 6).trans rfl, (blk_cell BK456.out 7).trans rfl, (blk_cell BK456.out 8).trans rfl, (blk_cell BK444.out 0).trans rfl, (blk_cell BK444.out 1).trans rfl, (blk_cell BK444.out 2).trans rfl, (blk_cell BK444.out 3).trans rfl, (blk_cell BK444.out 4).trans rfl, (blk_cell BK444.out 5).trans rfl, (blk_cell BK444.out 6).trans rfl, (blk_cell BK444.out 7).trans rfl⟩ (fun hHeld => ?_)
            clear hK K
            refine norm_ (a' := ?_) ?_ ?_
            rotate_left
            ·show Act.put _ (some 71) _ = _
             simp only [Act.put, sI, sZ, sS, i64_w, i32_w]
             rfl
            refine pure_ (i := 18) (N := some 74) (v := ?_) (a' := ?_) q44 rfl rfl (any_of HT_.out (by kernel_rfl)) (fun _ _ _ h => h) (Or.inl ⟨by rfl, ?_⟩) ?_ ?_
            rotate_left
            ·intro w'
             go_simp
             with_reducible rfl
            rotate_left
            ·simp only [Act.put, sI, sZ, sS, i64_w, i32_w]
             rfl
            refine pure_ (i := 19) (N := some 75) (v := ?_) (a' := ?_) q45 rfl rfl (any_of HT_.out (by kernel_rfl)) (fun _ _ _ h => h) (Or.inl ⟨by rfl, ?_⟩) ?_ ?_
            rotate_left
            ·intro w'
             go_simp
             with_reducible rfl
            rotate_left
            ·simp only [Act.put, sI, sZ, sS, i64_w, i32_w]
             rfl
            refine pure_ (i := 20) (N := some 76) (v := undef) (a' := ?_) q46 rfl rfl (any_of HT_.out (by kernel_rfl)) (fun _ _ _ h => h) (Or.inr ⟨by rfl, rfl⟩) ?_ ?_
            rotate_left
            ·simp only [Act.put, sI, sZ, sS, i64_w, i32_w]
             rfl
            refine pure_ (i := 21) (N := some 77) (v := undef) (a' := ?_) q47 rfl rfl (any_of HT_.out (by kernel_rfl)) (fun _ _ _ h => h) (Or.inr ⟨by rfl, rfl⟩) ?_ ?_
            rotate_left
            ·simp only [Act.put, sI, sZ, sS, i64_w, i32_w]
             rfl
            refine pure_ (i := 22) (N := some 78) (v := undef) (a' := ?_) q48 rfl rfl (any_of HT_.out (by kernel_rfl)) (fun _ _ _ h => h) (Or.inr ⟨by rfl, rfl⟩) ?_ ?_
            rotate_left
            ·simp only [Act.put, sI, sZ, sS, i64_w, i32_w]
             rfl
            refine pure_ (i := 23) (N := some 79) (v := ?_) (a' := ?_) q49 rfl rfl (any_of HT_.out (by kernel_rfl)) (fun _ _ _ h => h) (Or.inl ⟨by rfl, ?_⟩) ?_ ?_
            rotate_left
            ·intro w'
             go_simp
             with_reducible rfl
            rotate_left
            ·simp only [Act.put, sI, sZ, sS, i64_w, i32_w]
             rfl
            refine pure_ (i := 24) (N := some 80) (v := ?_) (a' := ?_) q50 rfl rfl (any_of HT_.out (by kernel_rfl)) (fun _ _ _ h => h) (Or.inl ⟨by rfl, ?_⟩) ?_ ?_
            rotate_left
            ·intro w'
             go_simp
             with_reducible rfl
            rotate_left
            ·simp only [Act.put, sI, sZ, sS, i64_w, i32_w]
             rfl
            refine pure_ (i := 25) (N := some 81) (v := ?_) (a' := ?_) q51 rfl rfl (any_of HT_.out (by kernel_rfl)) (fun _ _ _ h => h) (Or.inl ⟨by rfl, ?_⟩) ?_ ?_
            rotate_left
            ·intro w'
             go_simp
             with_reducible rfl
            rotate_left
            ·simp only [Act.put, sI, sZ, sS, i64_w, i32_w]
             rfl
            refine done_ (done_of HT_.out (by kernel_rfl)) ?_
            try go_wp2
            go_meet
            case rel => exact ⟨_, (true), (by first | rfl | (simp; done) | (simp [*]; done)), H', ⟨by have := HJ2.out; have := HJ11.out; first | omega | exact Nat.le_refl _⟩, ⟨by (with_reducible repeat (first | apply Kd.R_alloc | apply Kd.R_drewN | apply Kd.R_drew)); exact HO_9.out⟩, ⟨by (with_reducible repeat (first | apply Kd.R_alloc | apply Kd.R_drewN | apply Kd.R_drew)); exact HO_10.out⟩, ⟨by (with_reducible repeat (first | refine blk_drewN ?_ _ | refine blk_drew ?_ | refine blk_alloc ?_ _)); exact BK444.out⟩, ⟨by (with_reducible repeat (first | refine blk_drewN ?_ _ | refine blk_drew ?_ | refine blk_alloc ?_ _)); exact BK456.out⟩, ⟨by repeat (first | (with_reducible first | exact HB.out | apply below_alloc | apply pw_below_drewN | apply below_drew1 | refine below_set ?_ GE444.out | refine below_set ?_ GE456.out) | exact HB.out)⟩⟩
           ·rw [if_neg c62] at H
            have c62b0 : ((!(t480 == t436) || ((!(t481 == t437) || (!(t482 == t438) || (!(t483 == t439) || (!(t484 == t440) || (!(t485 == t441) || (!(t486 == t442) || (!(t487 == t443)))))))))) || (!(t488 == 0))) = false := by simpa using c62
            clear c62
            have H' := Aside0.mk H
            clear H
            try go_wp2
            have n0_ := Aside0.mk (Kd.R_drew HO_9.out)
            have n1_ := Aside0.mk (Kd.R_drew HO_10.out)
            have n2_ := Aside0.mk (blk_drew BK444.out)
            have n3_ := Aside0.mk (blk_drew BK456.out)
            have n4_ := Aside0.mk (below_drew1 HB.out)
            clear HO_9
            clear HO_10
            clear BK444
            clear BK456
            clear HB
            have HO_9 := n0_
            have HO_10 := n1_
            have BK444 := n2_
            have BK456 := n3_
            have HB := n4_
            clear n0_ n1_ n2_ n3_ n4_
            refine start_ (n := 26) (S := fun w' => w'.cell? ⟨gb456, 0, none⟩ = some (.int .i64 t447) ∧ w'.cell? ⟨gb456, 1, none⟩ = some (.int .i64 t448) ∧ w'.cell? ⟨gb456, 2, none⟩ = some (.int .i64 t449) ∧ w'.cell? ⟨gb456, 3, none⟩ = some (.int .i64 t450) ∧ w'.cell? ⟨gb456, 4, none⟩ = some (.int .i64 t451) ∧ w'.cell? ⟨gb456, 5, none⟩ = some (.int .i64 t452) ∧ w'.cell? ⟨gb456, 6, none⟩ = some (.int .i64 t453) ∧ w'.cell? ⟨gb456, 7, none⟩ = some (.bool t454) ∧ w'.cell? ⟨gb456, 8, none⟩ = some (.int .i64 t455) ∧ w'.cell? ⟨gb444, 0, none⟩ = some (.int .i64 t436) ∧ w'.cell? ⟨gb444, 1, none⟩ = some (.int .i64 t437) ∧ w'.cell? ⟨gb444, 2, none⟩ = some (.int .i64 t438) ∧ w'.cell? ⟨gb444, 3, none⟩ = some (.int .i64 t439) ∧ w'.cell? ⟨gb444, 4, none⟩ = some (.int .i64 t440) ∧ w'.cell? ⟨gb444, 5, none⟩ = some (.int .i64 t441) ∧ w'.cell? ⟨gb444, 6, none⟩ = some (.int .i64 t442) ∧ w'.cell? ⟨gb444, 7, none⟩ = some (.bool t443)) (ds := []) q25 (by kernel_rfl) rfl rfl ⟨(blk_cell BK456.out 0).trans rfl, (blk_cell BK456.out 1).trans rfl, (blk_cell BK456.out 2).trans rfl, (blk_cell BK456.out 3).trans rfl, (blk_cell BK456.out 4).trans rfl, (blk_cell BK456.out 5).trans rfl, (blk_cell BK456.out 6).trans rfl, (blk_cell BK456.out 7).trans rfl, (blk_cell BK456.out 8).trans rfl, (blk_cell BK444.out 0).trans rfl, (blk_cell BK444.out 1).trans rfl, (blk_cell BK444.out 2).trans rfl, (blk_cell BK444.out 3).trans rfl, (blk_cell BK444.out 4).trans rfl, (blk_cell BK444.out 5).trans rfl, (blk_cell BK444.out 6).trans rfl, (blk_cell BK444.out 7).trans rfl⟩ (fun hHeld => ?_); refine with_tabW laws_FnNote.tab11 laws_FnNote.bits11 (fun HT_ HW_ => ?_)
            generalize wc.drew = w66 at HO_9 HO_10 BK444 BK456 HB hHeld ⊢
            refine pure_ (i := 0) (N := some 56) (v := ?_) (a' := ?_) q26 rfl rfl (any_of HT_.out (by kernel_rfl)) (fun _ _ _ h => h) (Or.inl ⟨by rfl, ?_⟩) ?_ ?_
            rotate_left
            ·intro w'
             go_simp
             with_reducible rfl
            rotate_left
            ·simp only [Act.put, sI, sZ, sS, i64_w, i32_w]
             rfl
            refine take_ (i := 1) (N := some 57) (v := ?_) (a' := ?_) q27 rfl rfl (take_ofW HT_.out HW_.out (by kernel_rfl)) (fun _ _ _ h => h) (Or.inl ⟨by rfl, ?_⟩) hHeld ?_ ?_
            rotate_left
            ·rintro w' ⟨s0, s1, s2, s3, s4, s5, s6, s7, s8, s9, s10, s11, s12, s13, s14, s15, s16⟩
             go_simp
             with_reducible rfl
            rotate_left
            ·simp only [Act.put, sI, sZ, sS, i64_w, i32_w]
             rfl
            refine pure_ (i := 2) (N := some 58) (v := ?_) (a' := ?_) q28 rfl rfl (any_of HT_.out (by kernel_rfl)) (fun _ _ _ h => h) (Or.inl ⟨by rfl, ?_⟩) ?_ ?_
            rotate_left
            ·intro w'
             go_simp
             with_reducible rfl
            rotate_left
            ·simp only [Act.put, sI, sZ, sS, i64_w, i32_w]
             rfl
            refine pure_ (i := 3) (N := some 59) (v := ?_) (a' := ?_) q29 rfl rfl (any_of HT_.out (by kernel_rfl)) (fun _ _ _ h => h) (Or.inl ⟨by rfl, ?_⟩) ?_ ?_
            rotate_left
            ·intro w'
             go_simp
             with_reducible rfl
            rotate_left
            ·simp only [Act.put, sI, sZ, sS, i64_w, i32_w]
             rfl
            refine pure_ (i := 4) (N := some 60) (v := ?_) (a' := ?_) q30 rfl rfl (any_of HT_.out (by kernel_rfl)) (fun _ _ _ h => h) (Or.inl ⟨by rfl, ?_⟩) ?_ ?_
            rotate_left
            ·intro w'
             go_simp
             with_reducible rfl
            rotate_left
            ·simp only [Act.put, sI, sZ, sS, i64_w, i32_w]
             rfl
            refine pure_ (i := 7) (N := some 63) (v := ?_) (a' := ?_) q31 rfl rfl (any_of HT_.out (by kernel_rfl)) (fun _ _ _ h => h) (Or.inl ⟨by rfl, ?_⟩) ?_ ?_
            rotate_left
            ·intro w'
             go_simp
             with_reducible rfl
            rotate_left
            ·simp only [Act.put, sI, sZ, sS, i64_w, i32_w]
             rfl
            refine take_ (i := 5) (N := some 61) (v := ?_) (a' := ?_) q32 rfl rfl (take_ofW HT_.out HW_.out (by kernel_rfl)) (fun _ _ _ h => h) (Or.inl ⟨by rfl, ?_⟩) hHeld ?_ ?_
            rotate_left
            ·rintro w' ⟨s0, s1, s2, s3, s4, s5, s6, s7, s8, s9, s10, s11, s12, s13, s14, s15, s16⟩
             go_simp
             with_reducible rfl
            rotate_left
            ·simp only [Act.put, sI, sZ, sS, i64_w, i32_w]
             rfl
            refine one_ (i := 6) (N := some 62) q33 rfl rfl (one_of HT_.out (by kernel_rfl)) (by decide) (fun K hK => ?_)
            refine goes_ Try.func23 (by kernel_rfl) rfl #[.agg #[.int .i64 t447, .int .i64 t448, .int .i64 t449, .int .i64 t450, .int .i64 t451, .int .i64 t452, .int .i64 t453, .bool t454]] (by rfl) rfl rfl (by (try simp only [mA, mC, mN]); first | done | rfl | (simp only [List.length_drop, List.length_take]; rfl)) ?_
            with_reducible refine (impl_NoteBytes.calls kj11 t447 t448 t449 t450 t451 t452 t453 t454 t479 _ A56.out).mono ?_
            rintro e w67 ⟨rfl, hb⟩
            refine ⟨_, rfl, ?_⟩
            have n0_ := Aside0.mk (Kd.R_below (by (with_reducible repeat (first | apply Kd.R_alloc | apply Kd.R_drewN | apply Kd.R_drew)); exact HO_9.out) hb)
            have n1_ := Aside0.mk (Kd.R_below (by (with_reducible repeat (first | apply Kd.R_alloc | apply Kd.R_drewN | apply Kd.R_drew)); exact HO_10.out) hb)
            have n2_ := Aside0.mk (blk_below (g := gb444) (by (with_reducible repeat (first | refine blk_drewN ?_ _ | refine blk_drew ?_ | refine blk_alloc ?_ _)); exact BK444.out) hb)
            have n3_ := Aside0.mk (blk_below (g := gb456) (by (with_reducible repeat (first | refine blk_drewN ?_ _ | refine blk_drew ?_ | refine blk_alloc ?_ _)); exact BK456.out) hb)
            have n4_ := Aside0.mk (below_step (by repeat (first | (with_reducible first | exact HB.out | apply below_alloc | apply pw_below_drewN | apply below_drew1 | refine below_set ?_ GE444.out | refine below_set ?_ GE456.out) | exact HB.out)) hb)
            clear HO_9
            clear HO_10
            clear BK444
            clear BK456
            clear HB
            have HO_9 := n0_
            have HO_10 := n1_
            have BK444 := n2_
            have BK456 := n3_
            have HB := n4_
            clear n0_ n1_ n2_ n3_ n4_
            (try clear hb)
            (try clear hb2)
            (try clear hk)
            (try clear hi)
            refine hK.out _ _ ⟨(blk_cell BK456.out 0).trans rfl, (blk_cell BK456.out 1).trans rfl, (blk_cell BK456.out 2).trans rfl, (blk_cell BK456.out 3).trans rfl, (blk_cell BK456.out 4).trans rfl, (blk_cell BK456.out 5).trans rfl, (blk_cell BK456.out 6).trans rfl, (blk_cell BK456.out 7).trans rfl, (blk_cell BK456.out 8).trans rfl, (blk_cell BK444.out 0).trans rfl, (blk_cell BK444.out 1).trans rfl, (blk_cell BK444.out 2).trans rfl, (blk_cell BK444.out 3).trans rfl, (blk_cell BK444.out 4).trans rfl, (blk_cell BK444.out 5).trans rfl, (blk_cell BK444.out 6).trans rfl, (blk_cell BK444.out 7).trans rfl⟩ (fun hHeld => ?_)
            clear hK K
            refine norm_ (a' := ?_) ?_ ?_
            rotate_left
            ·show Act.put _ (some 62) _ = _
             simp only [Act.put, sI, sZ, sS, i64_w, i32_w]
             rfl
            refine pure_ (i := 8) (N := some 64) (v := ?_) (a' := ?_) q34 rfl rfl (any_of HT_.out (by kernel_rfl)) (fun _ _ _ h => h) (Or.inl ⟨by rfl, ?_⟩) ?_ ?_
            rotate_left
            ·intro w'
             go_simp
             with_reducible rfl
            rotate_left
            ·simp only [Act.put, sI, sZ, sS, i64_w, i32_w]
             rfl
            refine pure_ (i := 9) (N := some 65) (v := ?_) (a' := ?_) q35 rfl rfl (any_of HT_.out (by kernel_rfl)) (fun _ _ _ h => h) (Or.inl ⟨by rfl, ?_⟩) ?_ ?_
            rotate_left
            ·intro w'
             go_simp
             with_reducible rfl
            rotate_left
            ·simp only [Act.put, sI, sZ, sS, i64_w, i32_w]
             rfl
            refine pure_ (i := 10) (N := some 66) (v := ?_) (a' := ?_) q36 rfl rfl (any_of HT_.out (by kernel_rfl)) (fun _ _ _ h => h) (Or.inl ⟨by rfl, ?_⟩) ?_ ?_
            rotate_left
            ·intro w'
             go_simp
             with_reducible rfl
            rotate_left
            ·simp only [Act.put, sI, sZ, sS, i64_w, i32_w]
             rfl
            refine pure_ (i := 11) (N := some 67) (v := ?_) (a' := ?_) q37 rfl rfl (any_of HT_.out (by kernel_rfl)) (fun _ _ _ h => h) (Or.inl ⟨by rfl, ?_⟩) ?_ ?_
            rotate_left
            ·intro w'
             go_simp
             with_reducible rfl
            rotate_left
            ·simp only [Act.put, sI, sZ, sS, i64_w, i32_w]
             rfl
            refine pure_ (i := 12) (N := some 68) (v := ?_) (a' := ?_) q38 rfl rfl (any_of HT_.out (by kernel_rfl)) (fun _ _ _ h => h) (Or.inl ⟨by rfl, ?_⟩) ?_ ?_
            rotate_left
            ·intro w'
             go_simp
             with_reducible rfl
            rotate_left
            ·simp only [Act.put, sI, sZ, sS, i64_w, i32_w]
             rfl
            refine pure_ (i := 13) (N := some 69) (v := ?_) (a' := ?_) q39 rfl rfl (any_of HT_.out (by kernel_rfl)) (fun _ _ _ h => h) (Or.inl ⟨by rfl, ?_⟩) ?_ ?_
            rotate_left
            ·intro w'
             go_simp
             with_reducible rfl
            rotate_left
            ·simp only [Act.put, sI, sZ, sS, i64_w, i32_w]
             rfl
            refine pure_ (i := 14) (N := some 70) (v := ?_) (a' := ?_) q40 rfl rfl (any_of HT_.out (by kernel_rfl)) (fun _ _ _ h => h) (Or.inl ⟨by rfl, ?_⟩) ?_ ?_
            rotate_left
            ·intro w'
             go_simp
             with_reducible rfl
            rotate_left
            ·simp only [Act.put, sI, sZ, sS, i64_w, i32_w]
             rfl
            refine take_ (i := 16) (N := some 72) (v := ?_) (a' := ?_) q52 rfl rfl (take_ofW HT_.out HW_.out (by kernel_rfl)) (fun _ _ _ h => h) (Or.inl ⟨by rfl, ?_⟩) hHeld ?_ ?_
            rotate_left
            ·rintro w' ⟨s0, s1, s2, s3, s4, s5, s6, s7, s8, s9, s10, s11, s12, s13, s14, s15, s16⟩
             go_simp
             with_reducible rfl
            rotate_left
            ·simp only [Act.put, sI, sZ, sS, i64_w, i32_w]
             rfl
            refine pure_ (i := 17) (N := some 73) (v := ?_) (a' := ?_) q53 rfl rfl (any_of HT_.out (by kernel_rfl)) (fun _ _ _ h => h) (Or.inl ⟨by rfl, ?_⟩) ?_ ?_
            rotate_left
            ·intro w'
             go_simp
             with_reducible rfl
            rotate_left
            ·simp only [Act.put, sI, sZ, sS, i64_w, i32_w]
             rfl
            refine one_ (i := 15) (N := some 71) q43 rfl rfl (one_of HT_.out (by kernel_rfl)) (by decide) (fun K hK => ?_)
            refine goes_ Try.func25 (by kernel_rfl) rfl #[.string t445] (by rfl) rfl rfl (by (try simp only [mA, mC, mN]); first | done | rfl | (simp only [List.length_drop, List.length_take]; rfl)) ?_
            with_reducible refine (impl_NoteRead.calls kj11 t445 t480 t481 t482 t483 t484 t485 t486 t487 t488 _ A61.out).mono ?_
            rintro e w68 ⟨rfl, hb⟩
            refine ⟨_, rfl, ?_⟩
            have n0_ := Aside0.mk (Kd.R_below (by (with_reducible repeat (first | apply Kd.R_alloc | apply Kd.R_drewN | apply Kd.R_drew)); exact HO_9.out) hb)
            have n1_ := Aside0.mk (Kd.R_below (by (with_reducible repeat (first | apply Kd.R_alloc | apply Kd.R_drewN | apply Kd.R_drew)); exact HO_10.out) hb)
            have n2_ := Aside0.mk (blk_below (g := gb444) (by (with_reducible repeat (first | refine blk_drewN ?_ _ | refine blk_drew ?_ | refine blk_alloc ?_ _)); exact BK444.out) hb)
            have n3_ := Aside0.mk (blk_below (g := gb456) (by (with_reducible repeat (first | refine blk_drewN ?_ _ | refine blk_drew ?_ | refine blk_alloc ?_ _)); exact BK456.out) hb)
            have n4_ := Aside0.mk (below_step (by repeat (first | (with_reducible first | exact HB.out | apply below_alloc | apply pw_below_drewN | apply below_drew1 | refine below_set ?_ GE444.out | refine below_set ?_ GE456.out) | exact HB.out)) hb)
            clear HO_9
            clear HO_10
            clear BK444
            clear BK456
            clear HB
            have HO_9 := n0_
            have HO_10 := n1_
            have BK444 := n2_
            have BK456 := n3_
            have HB := n4_
            clear n0_ n1_ n2_ n3_ n4_
            (try clear hb)
            (try clear hb2)
            (try clear hk)
            (try clear hi)
            refine hK.out _ _ ⟨(blk_cell BK456.out 0).trans rfl, (blk_cell BK456.out 1).trans rfl, (blk_cell BK456.out 2).trans rfl, (blk_cell BK456.out 3).trans rfl, (blk_cell BK456.out 4).trans rfl, (blk_cell BK456.out 5).trans rfl, (blk_cell BK456.out 6).trans rfl, (blk_cell BK456.out 7).trans rfl, (blk_cell BK456.out 8).trans rfl, (blk_cell BK444.out 0).trans rfl, (blk_cell BK444.out 1).trans rfl, (blk_cell BK444.out 2).trans rfl, (blk_cell BK444.out 3).trans rfl, (blk_cell BK444.out 4).trans rfl, (blk_cell BK444.out 5).trans rfl, (blk_cell BK444.out 6).trans rfl, (blk_cell BK444.out 7).trans rfl⟩ (fun hHeld => ?_)
            clear hK K
            refine norm_ (a' := ?_) ?_ ?_
            rotate_left
            ·show Act.put _ (some 71) _ = _
             simp only [Act.put, sI, sZ, sS, i64_w, i32_w]
             rfl
            refine pure_ (i := 18) (N := some 74) (v := ?_) (a' := ?_) q44 rfl rfl (any_of HT_.out (by kernel_rfl)) (fun _ _ _ h => h) (Or.inl ⟨by rfl, ?_⟩) ?_ ?_
            rotate_left
            ·intro w'
             go_simp
             with_reducible rfl
            rotate_left
            ·simp only [Act.put, sI, sZ, sS, i64_w, i32_w]
             rfl
            refine pure_ (i := 19) (N := some 75) (v := ?_) (a' := ?_) q45 rfl rfl (any_of HT_.out (by kernel_rfl)) (fun _ _ _ h => h) (Or.inl ⟨by rfl, ?_⟩) ?_ ?_
            rotate_left
            ·intro w'
             go_simp
             with_reducible rfl
            rotate_left
            ·simp only [Act.put, sI, sZ, sS, i64_w, i32_w]
             rfl
            refine pure_ (i := 20) (N := some 76) (v := ?_) (a' := ?_) q46 rfl rfl (any_of HT_.out (by kernel_rfl)) (fun _ _ _ h => h) (Or.inl ⟨by rfl, ?_⟩) ?_ ?_
            rotate_left
            ·intro w'
             go_simp
             with_reducible rfl
            rotate_left
            ·simp only [Act.put, sI, sZ, sS, i64_w, i32_w]
             rfl
            refine pure_ (i := 21) (N := some 77) (v := ?_) (a' := ?_) q47 rfl rfl (any_of HT_.out (by kernel_rfl)) (fun _ _ _ h => h) (Or.inl ⟨by rfl, ?_⟩) ?_ ?_
            rotate_left
            ·intro w'
             go_simp
             with_reducible rfl
            rotate_left
            ·simp only [Act.put, sI, sZ, sS, i64_w, i32_w]
             rfl
            refine pure_ (i := 22) (N := some 78) (v := ?_) (a' := ?_) q48 rfl rfl (any_of HT_.out (by kernel_rfl)) (fun _ _ _ h => h) (Or.inl ⟨by rfl, ?_⟩) ?_ ?_
            rotate_left
            ·intro w'
             go_simp
             with_reducible rfl
            rotate_left
            ·simp only [Act.put, sI, sZ, sS, i64_w, i32_w]
             rfl
            refine pure_ (i := 23) (N := some 79) (v := ?_) (a' := ?_) q49 rfl rfl (any_of HT_.out (by kernel_rfl)) (fun _ _ _ h => h) (Or.inl ⟨by rfl, ?_⟩) ?_ ?_
            rotate_left
            ·intro w'
             go_simp
             with_reducible rfl
            rotate_left
            ·simp only [Act.put, sI, sZ, sS, i64_w, i32_w]
             rfl
            refine pure_ (i := 24) (N := some 80) (v := ?_) (a' := ?_) q50 rfl rfl (any_of HT_.out (by kernel_rfl)) (fun _ _ _ h => h) (Or.inl ⟨by rfl, ?_⟩) ?_ ?_
            rotate_left
            ·intro w'
             go_simp
             with_reducible rfl
            rotate_left
            ·simp only [Act.put, sI, sZ, sS, i64_w, i32_w]
             rfl
            refine pure_ (i := 25) (N := some 81) (v := ?_) (a' := ?_) q51 rfl rfl (any_of HT_.out (by kernel_rfl)) (fun _ _ _ h => h) (Or.inl ⟨by rfl, ?_⟩) ?_ ?_
            rotate_left
            ·intro w'
             go_simp
             with_reducible rfl
            rotate_left
            ·simp only [Act.put, sI, sZ, sS, i64_w, i32_w]
             rfl
            refine done_ (done_of HT_.out (by kernel_rfl)) ?_
            try go_wp2
            go_meet
            case rel => exact ⟨_, (decide ((t445.size : Int) > 60)), (by first | rfl | (simp; done) | (simp [*]; done)), H', ⟨by have := HJ2.out; have := HJ11.out; first | omega | exact Nat.le_refl _⟩, ⟨by (with_reducible repeat (first | apply Kd.R_alloc | apply Kd.R_drewN | apply Kd.R_drew)); exact HO_9.out⟩, ⟨by (with_reducible repeat (first | apply Kd.R_alloc | apply Kd.R_drewN | apply Kd.R_drew)); exact HO_10.out⟩, ⟨by (with_reducible repeat (first | refine blk_drewN ?_ _ | refine blk_drew ?_ | refine blk_alloc ?_ _)); exact BK444.out⟩, ⟨by (with_reducible repeat (first | refine blk_drewN ?_ _ | refine blk_drew ?_ | refine blk_alloc ?_ _)); exact BK456.out⟩, ⟨by repeat (first | (with_reducible first | exact HB.out | apply below_alloc | apply pw_below_drewN | apply below_drew1 | refine below_set ?_ GE444.out | refine below_set ?_ GE456.out) | exact HB.out)⟩⟩
         ·rw [if_neg c57] at H
          have c57b0 : (t479.toList == t446.toList) = false := beq_eq_false_iff_ne.mpr c57
          have c57b1 : (t479.toList != t446.toList) = true := bne_iff_ne.mpr c57
          have H' := Aside0.mk H
          clear H
          try go_wp2
          have n0_ := Aside0.mk (Kd.R_drew HO_9.out)
          have n1_ := Aside0.mk (Kd.R_drew HO_10.out)
          have n2_ := Aside0.mk (blk_drew BK444.out)
          have n3_ := Aside0.mk (blk_drew BK456.out)
          have n4_ := Aside0.mk (below_drew1 HB.out)
          clear HO_9
          clear HO_10
          clear BK444
          clear BK456
          clear HB
          have HO_9 := n0_
          have HO_10 := n1_
          have BK444 := n2_
          have BK456 := n3_
          have HB := n4_
          clear n0_ n1_ n2_ n3_ n4_
          refine start_ (n := 26) (S := fun w' => w'.cell? ⟨gb456, 0, none⟩ = some (.int .i64 t447) ∧ w'.cell? ⟨gb456, 1, none⟩ = some (.int .i64 t448) ∧ w'.cell? ⟨gb456, 2, none⟩ = some (.int .i64 t449) ∧ w'.cell? ⟨gb456, 3, none⟩ = some (.int .i64 t450) ∧ w'.cell? ⟨gb456, 4, none⟩ = some (.int .i64 t451) ∧ w'.cell? ⟨gb456, 5, none⟩ = some (.int .i64 t452) ∧ w'.cell? ⟨gb456, 6, none⟩ = some (.int .i64 t453) ∧ w'.cell? ⟨gb456, 7, none⟩ = some (.bool t454) ∧ w'.cell? ⟨gb456, 8, none⟩ = some (.int .i64 t455)) (ds := []) q25 (by kernel_rfl) rfl rfl ⟨(blk_cell BK456.out 0).trans rfl, (blk_cell BK456.out 1).trans rfl, (blk_cell BK456.out 2).trans rfl, (blk_cell BK456.out 3).trans rfl, (blk_cell BK456.out 4).trans rfl, (blk_cell BK456.out 5).trans rfl, (blk_cell BK456.out 6).trans rfl, (blk_cell BK456.out 7).trans rfl, (blk_cell BK456.out 8).trans rfl⟩ (fun hHeld => ?_); refine with_tabW laws_FnNote.tab11 laws_FnNote.bits11 (fun HT_ HW_ => ?_)
          generalize wc.drew = w69 at HO_9 HO_10 BK444 BK456 HB hHeld ⊢
          refine pure_ (i := 0) (N := some 56) (v := ?_) (a' := ?_) q26 rfl rfl (any_of HT_.out (by kernel_rfl)) (fun _ _ _ h => h) (Or.inl ⟨by rfl, ?_⟩) ?_ ?_
          rotate_left
          ·intro w'
           go_simp
           with_reducible rfl
          rotate_left
          ·simp only [Act.put, sI, sZ, sS, i64_w, i32_w]
           rfl
          refine take_ (i := 1) (N := some 57) (v := ?_) (a' := ?_) q27 rfl rfl (take_ofW HT_.out HW_.out (by kernel_rfl)) (fun _ _ _ h => h) (Or.inl ⟨by rfl, ?_⟩) hHeld ?_ ?_
          rotate_left
          ·rintro w' ⟨s0, s1, s2, s3, s4, s5, s6, s7, s8⟩
           go_simp
           with_reducible rfl
          rotate_left
          ·simp only [Act.put, sI, sZ, sS, i64_w, i32_w]
           rfl
          refine pure_ (i := 2) (N := some 58) (v := ?_) (a' := ?_) q28 rfl rfl (any_of HT_.out (by kernel_rfl)) (fun _ _ _ h => h) (Or.inl ⟨by rfl, ?_⟩) ?_ ?_
          rotate_left
          ·intro w'
           go_simp
           with_reducible rfl
          rotate_left
          ·simp only [Act.put, sI, sZ, sS, i64_w, i32_w]
           rfl
          refine pure_ (i := 3) (N := some 59) (v := ?_) (a' := ?_) q29 rfl rfl (any_of HT_.out (by kernel_rfl)) (fun _ _ _ h => h) (Or.inl ⟨by rfl, ?_⟩) ?_ ?_
          rotate_left
          ·intro w'
           go_simp
           with_reducible rfl
          rotate_left
          ·simp only [Act.put, sI, sZ, sS, i64_w, i32_w]
           rfl
          refine pure_ (i := 4) (N := some 60) (v := ?_) (a' := ?_) q30 rfl rfl (any_of HT_.out (by kernel_rfl)) (fun _ _ _ h => h) (Or.inl ⟨by rfl, ?_⟩) ?_ ?_
          rotate_left
          ·intro w'
           go_simp
           with_reducible rfl
          rotate_left
          ·simp only [Act.put, sI, sZ, sS, i64_w, i32_w]
           rfl
          refine pure_ (i := 7) (N := some 63) (v := ?_) (a' := ?_) q31 rfl rfl (any_of HT_.out (by kernel_rfl)) (fun _ _ _ h => h) (Or.inl ⟨by rfl, ?_⟩) ?_ ?_
          rotate_left
          ·intro w'
           go_simp
           with_reducible rfl
          rotate_left
          ·simp only [Act.put, sI, sZ, sS, i64_w, i32_w]
           rfl
          refine take_ (i := 5) (N := some 61) (v := ?_) (a' := ?_) q32 rfl rfl (take_ofW HT_.out HW_.out (by kernel_rfl)) (fun _ _ _ h => h) (Or.inl ⟨by rfl, ?_⟩) hHeld ?_ ?_
          rotate_left
          ·rintro w' ⟨s0, s1, s2, s3, s4, s5, s6, s7, s8⟩
           go_simp
           with_reducible rfl
          rotate_left
          ·simp only [Act.put, sI, sZ, sS, i64_w, i32_w]
           rfl
          refine one_ (i := 6) (N := some 62) q33 rfl rfl (one_of HT_.out (by kernel_rfl)) (by decide) (fun K hK => ?_)
          refine goes_ Try.func23 (by kernel_rfl) rfl #[.agg #[.int .i64 t447, .int .i64 t448, .int .i64 t449, .int .i64 t450, .int .i64 t451, .int .i64 t452, .int .i64 t453, .bool t454]] (by rfl) rfl rfl (by (try simp only [mA, mC, mN]); first | done | rfl | (simp only [List.length_drop, List.length_take]; rfl)) ?_
          with_reducible refine (impl_NoteBytes.calls kj11 t447 t448 t449 t450 t451 t452 t453 t454 t479 _ A56.out).mono ?_
          rintro e w70 ⟨rfl, hb⟩
          refine ⟨_, rfl, ?_⟩
          have n0_ := Aside0.mk (Kd.R_below (by (with_reducible repeat (first | apply Kd.R_alloc | apply Kd.R_drewN | apply Kd.R_drew)); exact HO_9.out) hb)
          have n1_ := Aside0.mk (Kd.R_below (by (with_reducible repeat (first | apply Kd.R_alloc | apply Kd.R_drewN | apply Kd.R_drew)); exact HO_10.out) hb)
          have n2_ := Aside0.mk (blk_below (g := gb444) (by (with_reducible repeat (first | refine blk_drewN ?_ _ | refine blk_drew ?_ | refine blk_alloc ?_ _)); exact BK444.out) hb)
          have n3_ := Aside0.mk (blk_below (g := gb456) (by (with_reducible repeat (first | refine blk_drewN ?_ _ | refine blk_drew ?_ | refine blk_alloc ?_ _)); exact BK456.out) hb)
          have n4_ := Aside0.mk (below_step (by repeat (first | (with_reducible first | exact HB.out | apply below_alloc | apply pw_below_drewN | apply below_drew1 | refine below_set ?_ GE444.out | refine below_set ?_ GE456.out) | exact HB.out)) hb)
          clear HO_9
          clear HO_10
          clear BK444
          clear BK456
          clear HB
          have HO_9 := n0_
          have HO_10 := n1_
          have BK444 := n2_
          have BK456 := n3_
          have HB := n4_
          clear n0_ n1_ n2_ n3_ n4_
          (try clear hb)
          (try clear hb2)
          (try clear hk)
          (try clear hi)
          refine hK.out _ _ ⟨(blk_cell BK456.out 0).trans rfl, (blk_cell BK456.out 1).trans rfl, (blk_cell BK456.out 2).trans rfl, (blk_cell BK456.out 3).trans rfl, (blk_cell BK456.out 4).trans rfl, (blk_cell BK456.out 5).trans rfl, (blk_cell BK456.out 6).trans rfl, (blk_cell BK456.out 7).trans rfl, (blk_cell BK456.out 8).trans rfl⟩ (fun hHeld => ?_)
          clear hK K
          refine norm_ (a' := ?_) ?_ ?_
          rotate_left
          ·show Act.put _ (some 62) _ = _
           simp only [Act.put, sI, sZ, sS, i64_w, i32_w]
           rfl
          refine pure_ (i := 8) (N := some 64) (v := ?_) (a' := ?_) q34 rfl rfl (any_of HT_.out (by kernel_rfl)) (fun _ _ _ h => h) (Or.inl ⟨by rfl, ?_⟩) ?_ ?_
          rotate_left
          ·intro w'
           go_simp
           with_reducible rfl
          rotate_left
          ·simp only [Act.put, sI, sZ, sS, i64_w, i32_w]
           rfl
          refine pure_ (i := 9) (N := some 65) (v := ?_) (a' := ?_) q35 rfl rfl (any_of HT_.out (by kernel_rfl)) (fun _ _ _ h => h) (Or.inl ⟨by rfl, ?_⟩) ?_ ?_
          rotate_left
          ·intro w'
           go_simp
           with_reducible rfl
          rotate_left
          ·simp only [Act.put, sI, sZ, sS, i64_w, i32_w]
           rfl
          refine pure_ (i := 10) (N := some 66) (v := ?_) (a' := ?_) q36 rfl rfl (any_of HT_.out (by kernel_rfl)) (fun _ _ _ h => h) (Or.inl ⟨by rfl, ?_⟩) ?_ ?_
          rotate_left
          ·intro w'
           go_simp
           with_reducible rfl
          rotate_left
          ·simp only [Act.put, sI, sZ, sS, i64_w, i32_w]
           rfl
          refine pure_ (i := 11) (N := some 67) (v := undef) (a' := ?_) q37 rfl rfl (any_of HT_.out (by kernel_rfl)) (fun _ _ _ h => h) (Or.inr ⟨by rfl, rfl⟩) ?_ ?_
          rotate_left
          ·simp only [Act.put, sI, sZ, sS, i64_w, i32_w]
           rfl
          refine pure_ (i := 12) (N := some 68) (v := undef) (a' := ?_) q38 rfl rfl (any_of HT_.out (by kernel_rfl)) (fun _ _ _ h => h) (Or.inr ⟨by rfl, rfl⟩) ?_ ?_
          rotate_left
          ·simp only [Act.put, sI, sZ, sS, i64_w, i32_w]
           rfl
          refine pure_ (i := 13) (N := some 69) (v := undef) (a' := ?_) q39 rfl rfl (any_of HT_.out (by kernel_rfl)) (fun _ _ _ h => h) (Or.inr ⟨by rfl, rfl⟩) ?_ ?_
          rotate_left
          ·simp only [Act.put, sI, sZ, sS, i64_w, i32_w]
           rfl
          refine pure_ (i := 14) (N := some 70) (v := undef) (a' := ?_) q40 rfl rfl (any_of HT_.out (by kernel_rfl)) (fun _ _ _ h => h) (Or.inr ⟨by rfl, rfl⟩) ?_ ?_
          rotate_left
          ·simp only [Act.put, sI, sZ, sS, i64_w, i32_w]
           rfl
          refine pure_ (i := 15) (N := some 71) (v := undef) (a' := ?_) q41 rfl rfl (any_of HT_.out (by kernel_rfl)) (fun _ _ _ h => h) (Or.inr ⟨by rfl, rfl⟩) ?_ ?_
          rotate_left
          ·simp only [Act.put, sI, sZ, sS, i64_w, i32_w]
           rfl
          refine pure_ (i := 16) (N := some 72) (v := undef) (a' := ?_) q42 rfl rfl (any_of HT_.out (by kernel_rfl)) (fun _ _ _ h => h) (Or.inr ⟨by rfl, rfl⟩) ?_ ?_
          rotate_left
          ·simp only [Act.put, sI, sZ, sS, i64_w, i32_w]
           rfl
          refine pure_ (i := 17) (N := some 73) (v := undef) (a' := ?_) q43 rfl rfl (any_of HT_.out (by kernel_rfl)) (fun _ _ _ h => h) (Or.inr ⟨by rfl, rfl⟩) ?_ ?_
          rotate_left
          ·simp only [Act.put, sI, sZ, sS, i64_w, i32_w]
           rfl
          refine pure_ (i := 18) (N := some 74) (v := undef) (a' := ?_) q44 rfl rfl (any_of HT_.out (by kernel_rfl)) (fun _ _ _ h => h) (Or.inr ⟨by rfl, rfl⟩) ?_ ?_
          rotate_left
          ·simp only [Act.put, sI, sZ, sS, i64_w, i32_w]
           rfl
          refine pure_ (i := 19) (N := some 75) (v := undef) (a' := ?_) q45 rfl rfl (any_of HT_.out (by kernel_rfl)) (fun _ _ _ h => h) (Or.inr ⟨by rfl, rfl⟩) ?_ ?_
          rotate_left
          ·simp only [Act.put, sI, sZ, sS, i64_w, i32_w]
           rfl
          refine pure_ (i := 20) (N := some 76) (v := undef) (a' := ?_) q46 rfl rfl (any_of HT_.out (by kernel_rfl)) (fun _ _ _ h => h) (Or.inr ⟨by rfl, rfl⟩) ?_ ?_
          rotate_left
          ·simp only [Act.put, sI, sZ, sS, i64_w, i32_w]
           rfl
          refine pure_ (i := 21) (N := some 77) (v := undef) (a' := ?_) q47 rfl rfl (any_of HT_.out (by kernel_rfl)) (fun _ _ _ h => h) (Or.inr ⟨by rfl, rfl⟩) ?_ ?_
          rotate_left
          ·simp only [Act.put, sI, sZ, sS, i64_w, i32_w]
           rfl
          refine pure_ (i := 22) (N := some 78) (v := undef) (a' := ?_) q48 rfl rfl (any_of HT_.out (by kernel_rfl)) (fun _ _ _ h => h) (Or.inr ⟨by rfl, rfl⟩) ?_ ?_
          rotate_left
          ·simp only [Act.put, sI, sZ, sS, i64_w, i32_w]
           rfl
          refine pure_ (i := 23) (N := some 79) (v := undef) (a' := ?_) q49 rfl rfl (any_of HT_.out (by kernel_rfl)) (fun _ _ _ h => h) (Or.inr ⟨by rfl, rfl⟩) ?_ ?_
          rotate_left
          ·simp only [Act.put, sI, sZ, sS, i64_w, i32_w]
           rfl
          refine pure_ (i := 24) (N := some 80) (v := undef) (a' := ?_) q50 rfl rfl (any_of HT_.out (by kernel_rfl)) (fun _ _ _ h => h) (Or.inr ⟨by rfl, rfl⟩) ?_ ?_
          rotate_left
          ·simp only [Act.put, sI, sZ, sS, i64_w, i32_w]
           rfl
          refine pure_ (i := 25) (N := some 81) (v := ?_) (a' := ?_) q51 rfl rfl (any_of HT_.out (by kernel_rfl)) (fun _ _ _ h => h) (Or.inl ⟨by rfl, ?_⟩) ?_ ?_
          rotate_left
          ·intro w'
           go_simp
           with_reducible rfl
          rotate_left
          ·simp only [Act.put, sI, sZ, sS, i64_w, i32_w]
           rfl
          refine done_ (done_of HT_.out (by kernel_rfl)) ?_
          try go_wp2
          go_meet
          case rel => exact ⟨_, (true), (by first | rfl | (simp; done) | (simp [*]; done)), H', ⟨by have := HJ2.out; have := HJ11.out; first | omega | exact Nat.le_refl _⟩, ⟨by (with_reducible repeat (first | apply Kd.R_alloc | apply Kd.R_drewN | apply Kd.R_drew)); exact HO_9.out⟩, ⟨by (with_reducible repeat (first | apply Kd.R_alloc | apply Kd.R_drewN | apply Kd.R_drew)); exact HO_10.out⟩, ⟨by (with_reducible repeat (first | refine blk_drewN ?_ _ | refine blk_drew ?_ | refine blk_alloc ?_ _)); exact BK444.out⟩, ⟨by (with_reducible repeat (first | refine blk_drewN ?_ _ | refine blk_drew ?_ | refine blk_alloc ?_ _)); exact BK456.out⟩, ⟨by repeat (first | (with_reducible first | exact HB.out | apply below_alloc | apply pw_below_drewN | apply below_drew1 | refine below_set ?_ GE444.out | refine below_set ?_ GE456.out) | exact HB.out)⟩⟩
        ·rw [if_neg c55] at H
         have c55b0 : (t455 == 0) = false := beq_eq_false_iff_ne.mpr c55
         have c55b1 : (t455 != 0) = true := bne_iff_ne.mpr c55
         (first | rw [c55b0] | (simp only [i64_w, i32_w]; rw [c55b0]) | skip)
         by_cases c71 : t445.toList = ([] : List UInt8)
         ·rw [if_pos c71] at H
          have c71b0 : (t445.toList == ([] : List UInt8)) = true := beq_iff_eq.mpr c71
          have c71b1 : (t445.toList != ([] : List UInt8)) = false := bne_eq_false_iff_eq.mpr c71
          clear c71
          have H' := Aside0.mk H
          clear H
          try go_wp2
          have n0_ := Aside0.mk (Kd.R_drew HO_9.out)
          have n1_ := Aside0.mk (Kd.R_drew HO_10.out)
          have n2_ := Aside0.mk (blk_drew BK444.out)
          have n3_ := Aside0.mk (blk_drew BK456.out)
          have n4_ := Aside0.mk (below_drew1 HB.out)
          clear HO_9
          clear HO_10
          clear BK444
          clear BK456
          clear HB
          have HO_9 := n0_
          have HO_10 := n1_
          have BK444 := n2_
          have BK456 := n3_
          have HB := n4_
          clear n0_ n1_ n2_ n3_ n4_
          refine start_ (n := 26) (S := fun w' => w'.cell? ⟨gb456, 0, none⟩ = some (.int .i64 t447) ∧ w'.cell? ⟨gb456, 1, none⟩ = some (.int .i64 t448) ∧ w'.cell? ⟨gb456, 2, none⟩ = some (.int .i64 t449) ∧ w'.cell? ⟨gb456, 3, none⟩ = some (.int .i64 t450) ∧ w'.cell? ⟨gb456, 4, none⟩ = some (.int .i64 t451) ∧ w'.cell? ⟨gb456, 5, none⟩ = some (.int .i64 t452) ∧ w'.cell? ⟨gb456, 6, none⟩ = some (.int .i64 t453) ∧ w'.cell? ⟨gb456, 7, none⟩ = some (.bool t454) ∧ w'.cell? ⟨gb456, 8, none⟩ = some (.int .i64 t455)) (ds := []) q25 (by kernel_rfl) rfl rfl ⟨(blk_cell BK456.out 0).trans rfl, (blk_cell BK456.out 1).trans rfl, (blk_cell BK456.out 2).trans rfl, (blk_cell BK456.out 3).trans rfl, (blk_cell BK456.out 4).trans rfl, (blk_cell BK456.out 5).trans rfl, (blk_cell BK456.out 6).trans rfl, (blk_cell BK456.out 7).trans rfl, (blk_cell BK456.out 8).trans rfl⟩ (fun hHeld => ?_); refine with_tabW laws_FnNote.tab11 laws_FnNote.bits11 (fun HT_ HW_ => ?_)
          generalize wc.drew = w72 at HO_9 HO_10 BK444 BK456 HB hHeld ⊢
          refine pure_ (i := 0) (N := some 56) (v := ?_) (a' := ?_) q26 rfl rfl (any_of HT_.out (by kernel_rfl)) (fun _ _ _ h => h) (Or.inl ⟨by rfl, ?_⟩) ?_ ?_
          rotate_left
          ·intro w'
           go_simp
           with_reducible rfl
          rotate_left
          ·simp only [Act.put, sI, sZ, sS, i64_w, i32_w]
           rfl
          refine take_ (i := 1) (N := some 57) (v := ?_) (a' := ?_) q27 rfl rfl (take_ofW HT_.out HW_.out (by kernel_rfl)) (fun _ _ _ h => h) (Or.inl ⟨by rfl, ?_⟩) hHeld ?_ ?_
          rotate_left
          ·rintro w' ⟨s0, s1, s2, s3, s4, s5, s6, s7, s8⟩
           go_simp
           with_reducible rfl
          rotate_left
          ·simp only [Act.put, sI, sZ, sS, i64_w, i32_w]
           rfl
          refine pure_ (i := 2) (N := some 58) (v := ?_) (a' := ?_) q28 rfl rfl (any_of HT_.out (by kernel_rfl)) (fun _ _ _ h => h) (Or.inl ⟨by rfl, ?_⟩) ?_ ?_
          rotate_left
          ·intro w'
           go_simp
           with_reducible rfl
          rotate_left
          ·simp only [Act.put, sI, sZ, sS, i64_w, i32_w]
           rfl
          refine pure_ (i := 3) (N := some 59) (v := ?_) (a' := ?_) q29 rfl rfl (any_of HT_.out (by kernel_rfl)) (fun _ _ _ h => h) (Or.inl ⟨by rfl, ?_⟩) ?_ ?_
          rotate_left
          ·intro w'
           go_simp
           with_reducible rfl
          rotate_left
          ·simp only [Act.put, sI, sZ, sS, i64_w, i32_w]
           rfl
          refine pure_ (i := 4) (N := some 60) (v := undef) (a' := ?_) q30 rfl rfl (any_of HT_.out (by kernel_rfl)) (fun _ _ _ h => h) (Or.inr ⟨by rfl, rfl⟩) ?_ ?_
          rotate_left
          ·simp only [Act.put, sI, sZ, sS, i64_w, i32_w]
           rfl
          refine pure_ (i := 5) (N := some 61) (v := undef) (a' := ?_) q54 rfl rfl (any_of HT_.out (by kernel_rfl)) (fun _ _ _ h => h) (Or.inr ⟨by rfl, rfl⟩) ?_ ?_
          rotate_left
          ·simp only [Act.put, sI, sZ, sS, i64_w, i32_w]
           rfl
          refine pure_ (i := 6) (N := some 62) (v := undef) (a' := ?_) q55 rfl rfl (any_of HT_.out (by kernel_rfl)) (fun _ _ _ h => h) (Or.inr ⟨by rfl, rfl⟩) ?_ ?_
          rotate_left
          ·simp only [Act.put, sI, sZ, sS, i64_w, i32_w]
           rfl
          refine pure_ (i := 7) (N := some 63) (v := undef) (a' := ?_) q33 rfl rfl (any_of HT_.out (by kernel_rfl)) (fun _ _ _ h => h) (Or.inr ⟨by rfl, rfl⟩) ?_ ?_
          rotate_left
          ·simp only [Act.put, sI, sZ, sS, i64_w, i32_w]
           rfl
          refine pure_ (i := 8) (N := some 64) (v := undef) (a' := ?_) q34 rfl rfl (any_of HT_.out (by kernel_rfl)) (fun _ _ _ h => h) (Or.inr ⟨by rfl, rfl⟩) ?_ ?_
          rotate_left
          ·simp only [Act.put, sI, sZ, sS, i64_w, i32_w]
           rfl
          refine pure_ (i := 9) (N := some 65) (v := ?_) (a' := ?_) q35 rfl rfl (any_of HT_.out (by kernel_rfl)) (fun _ _ _ h => h) (Or.inl ⟨by rfl, ?_⟩) ?_ ?_
          rotate_left
          ·intro w'
           go_simp
           with_reducible rfl
          rotate_left
          ·simp only [Act.put, sI, sZ, sS, i64_w, i32_w]
           rfl
          refine pure_ (i := 10) (N := some 66) (v := ?_) (a' := ?_) q36 rfl rfl (any_of HT_.out (by kernel_rfl)) (fun _ _ _ h => h) (Or.inl ⟨by rfl, ?_⟩) ?_ ?_
          rotate_left
          ·intro w'
           go_simp
           with_reducible rfl
          rotate_left
          ·simp only [Act.put, sI, sZ, sS, i64_w, i32_w]
           rfl
          refine pure_ (i := 11) (N := some 67) (v := ?_) (a' := ?_) q37 rfl rfl (any_of HT_.out (by kernel_rfl)) (fun _ _ _ h => h) (Or.inl ⟨by rfl, ?_⟩) ?_ ?_
          rotate_left
          ·intro w'
           go_simp
           with_reducible rfl
          rotate_left
          ·simp only [Act.put, sI, sZ, sS, i64_w, i32_w]
           rfl
          refine pure_ (i := 12) (N := some 68) (v := ?_) (a' := ?_) q38 rfl rfl (any_of HT_.out (by kernel_rfl)) (fun _ _ _ h => h) (Or.inl ⟨by rfl, ?_⟩) ?_ ?_
          rotate_left
          ·intro w'
           go_simp
           with_reducible rfl
          rotate_left
          ·simp only [Act.put, sI, sZ, sS, i64_w, i32_w]
           rfl
          refine pure_ (i := 13) (N := some 69) (v := ?_) (a' := ?_) q39 rfl rfl (any_of HT_.out (by kernel_rfl)) (fun _ _ _ h => h) (Or.inl ⟨by rfl, ?_⟩) ?_ ?_
          rotate_left
          ·intro w'
           go_simp
           with_reducible rfl
          rotate_left
          ·simp only [Act.put, sI, sZ, sS, i64_w, i32_w]
           rfl
          refine pure_ (i := 14) (N := some 70) (v := undef) (a' := ?_) q40 rfl rfl (any_of HT_.out (by kernel_rfl)) (fun _ _ _ h => h) (Or.inr ⟨by rfl, rfl⟩) ?_ ?_
          rotate_left
          ·simp only [Act.put, sI, sZ, sS, i64_w, i32_w]
           rfl
          refine pure_ (i := 15) (N := some 71) (v := undef) (a' := ?_) q41 rfl rfl (any_of HT_.out (by kernel_rfl)) (fun _ _ _ h => h) (Or.inr ⟨by rfl, rfl⟩) ?_ ?_
          rotate_left
          ·simp only [Act.put, sI, sZ, sS, i64_w, i32_w]
           rfl
          refine pure_ (i := 16) (N := some 72) (v := undef) (a' := ?_) q42 rfl rfl (any_of HT_.out (by kernel_rfl)) (fun _ _ _ h => h) (Or.inr ⟨by rfl, rfl⟩) ?_ ?_
          rotate_left
          ·simp only [Act.put, sI, sZ, sS, i64_w, i32_w]
           rfl
          refine pure_ (i := 17) (N := some 73) (v := undef) (a' := ?_) q43 rfl rfl (any_of HT_.out (by kernel_rfl)) (fun _ _ _ h => h) (Or.inr ⟨by rfl, rfl⟩) ?_ ?_
          rotate_left
          ·simp only [Act.put, sI, sZ, sS, i64_w, i32_w]
           rfl
          refine pure_ (i := 18) (N := some 74) (v := undef) (a' := ?_) q44 rfl rfl (any_of HT_.out (by kernel_rfl)) (fun _ _ _ h => h) (Or.inr ⟨by rfl, rfl⟩) ?_ ?_
          rotate_left
          ·simp only [Act.put, sI, sZ, sS, i64_w, i32_w]
           rfl
          refine pure_ (i := 19) (N := some 75) (v := undef) (a' := ?_) q45 rfl rfl (any_of HT_.out (by kernel_rfl)) (fun _ _ _ h => h) (Or.inr ⟨by rfl, rfl⟩) ?_ ?_
          rotate_left
          ·simp only [Act.put, sI, sZ, sS, i64_w, i32_w]
           rfl
          refine pure_ (i := 20) (N := some 76) (v := undef) (a' := ?_) q46 rfl rfl (any_of HT_.out (by kernel_rfl)) (fun _ _ _ h => h) (Or.inr ⟨by rfl, rfl⟩) ?_ ?_
          rotate_left
          ·simp only [Act.put, sI, sZ, sS, i64_w, i32_w]
           rfl
          refine pure_ (i := 21) (N := some 77) (v := undef) (a' := ?_) q47 rfl rfl (any_of HT_.out (by kernel_rfl)) (fun _ _ _ h => h) (Or.inr ⟨by rfl, rfl⟩) ?_ ?_
          rotate_left
          ·simp only [Act.put, sI, sZ, sS, i64_w, i32_w]
           rfl
          refine pure_ (i := 22) (N := some 78) (v := undef) (a' := ?_) q48 rfl rfl (any_of HT_.out (by kernel_rfl)) (fun _ _ _ h => h) (Or.inr ⟨by rfl, rfl⟩) ?_ ?_
          rotate_left
          ·simp only [Act.put, sI, sZ, sS, i64_w, i32_w]
           rfl
          refine pure_ (i := 23) (N := some 79) (v := undef) (a' := ?_) q49 rfl rfl (any_of HT_.out (by kernel_rfl)) (fun _ _ _ h => h) (Or.inr ⟨by rfl, rfl⟩) ?_ ?_
          rotate_left
          ·simp only [Act.put, sI, sZ, sS, i64_w, i32_w]
           rfl
          refine pure_ (i := 24) (N := some 80) (v := ?_) (a' := ?_) q50 rfl rfl (any_of HT_.out (by kernel_rfl)) (fun _ _ _ h => h) (Or.inl ⟨by rfl, ?_⟩) ?_ ?_
          rotate_left
          ·intro w'
           go_simp
           with_reducible rfl
          rotate_left
          ·simp only [Act.put, sI, sZ, sS, i64_w, i32_w]
           rfl
          refine pure_ (i := 25) (N := some 81) (v := ?_) (a' := ?_) q51 rfl rfl (any_of HT_.out (by kernel_rfl)) (fun _ _ _ h => h) (Or.inl ⟨by rfl, ?_⟩) ?_ ?_
          rotate_left
          ·intro w'
           go_simp
           with_reducible rfl
          rotate_left
          ·simp only [Act.put, sI, sZ, sS, i64_w, i32_w]
           rfl
          refine done_ (done_of HT_.out (by kernel_rfl)) ?_
          try go_wp2
          go_meet
          case rel => exact ⟨_, (false), (by first | rfl | (simp; done) | (simp [*]; done)), H', ⟨by have := HJ2.out; have := HJ11.out; first | omega | exact Nat.le_refl _⟩, ⟨by (with_reducible repeat (first | apply Kd.R_alloc | apply Kd.R_drewN | apply Kd.R_drew)); exact HO_9.out⟩, ⟨by (with_reducible repeat (first | apply Kd.R_alloc | apply Kd.R_drewN | apply Kd.R_drew)); exact HO_10.out⟩, ⟨by (with_reducible repeat (first | refine blk_drewN ?_ _ | refine blk_drew ?_ | refine blk_alloc ?_ _)); exact BK444.out⟩, ⟨by (with_reducible repeat (first | refine blk_drewN ?_ _ | refine blk_drew ?_ | refine blk_alloc ?_ _)); exact BK456.out⟩, ⟨by repeat (first | (with_reducible first | exact HB.out | apply below_alloc | apply pw_below_drewN | apply below_drew1 | refine below_set ?_ GE444.out | refine below_set ?_ GE456.out) | exact HB.out)⟩⟩
         ·rw [if_neg c71] at H
          have c71b0 : (t445.toList == ([] : List UInt8)) = false := beq_eq_false_iff_ne.mpr c71
          have c71b1 : (t445.toList != ([] : List UInt8)) = true := bne_iff_ne.mpr c71
          replace H := Option.bind_eq_some_iff.mp H
          obtain ⟨⟨t489, t490, t491, t492, t493, t494, t495, t496, t497⟩, A730, H⟩ := H
          try dsimp only at H
          have A73 := Aside0.mk A730
          clear A730
          by_cases c74 : ((!(t489 == t436) || ((!(t490 == t437) || (!(t491 == t438) || (!(t492 == t439) || (!(t493 == t440) || (!(t494 == t441) || (!(t495 == t442) || (!(t496 == t443)))))))))) || (!(t497 == 0))) = true
          ·rw [if_pos c74] at H
           have c74b0 : ((!(t489 == t436) || ((!(t490 == t437) || (!(t491 == t438) || (!(t492 == t439) || (!(t493 == t440) || (!(t494 == t441) || (!(t495 == t442) || (!(t496 == t443)))))))))) || (!(t497 == 0))) = true := c74
           clear c74
           have H' := Aside0.mk H
           clear H
           try go_wp2
           have n0_ := Aside0.mk (Kd.R_drew HO_9.out)
           have n1_ := Aside0.mk (Kd.R_drew HO_10.out)
           have n2_ := Aside0.mk (blk_drew BK444.out)
           have n3_ := Aside0.mk (blk_drew BK456.out)
           have n4_ := Aside0.mk (below_drew1 HB.out)
           clear HO_9
           clear HO_10
           clear BK444
           clear BK456
           clear HB
           have HO_9 := n0_
           have HO_10 := n1_
           have BK444 := n2_
           have BK456 := n3_
           have HB := n4_
           clear n0_ n1_ n2_ n3_ n4_
           refine start_ (n := 26) (S := fun w' => w'.cell? ⟨gb456, 0, none⟩ = some (.int .i64 t447) ∧ w'.cell? ⟨gb456, 1, none⟩ = some (.int .i64 t448) ∧ w'.cell? ⟨gb456, 2, none⟩ = some (.int .i64 t449) ∧ w'.cell? ⟨gb456, 3, none⟩ = some (.int .i64 t450) ∧ w'.cell? ⟨gb456, 4, none⟩ = some (.int .i64 t451) ∧ w'.cell? ⟨gb456, 5, none⟩ = some (.int .i64 t452) ∧ w'.cell? ⟨gb456, 6, none⟩ = some (.int .i64 t453) ∧ w'.cell? ⟨gb456, 7, none⟩ = some (.bool t454) ∧ w'.cell? ⟨gb456, 8, none⟩ = some (.int .i64 t455) ∧ w'.cell? ⟨gb444, 0, none⟩ = some (.int .i64 t436) ∧ w'.cell? ⟨gb444, 1, none⟩ = some (.int .i64 t437) ∧ w'.cell? ⟨gb444, 2, none⟩ = some (.int .i64 t438) ∧ w'.cell? ⟨gb444, 3, none⟩ = some (.int .i64 t439) ∧ w'.cell? ⟨gb444, 4, none⟩ = some (.int .i64 t440) ∧ w'.cell? ⟨gb444, 5, none⟩ = some (.int .i64 t441) ∧ w'.cell? ⟨gb444, 6, none⟩ = some (.int .i64 t442) ∧ w'.cell? ⟨gb444, 7, none⟩ = some (.bool t443)) (ds := []) q25 (by kernel_rfl) rfl rfl ⟨(blk_cell BK456.out 0).trans rfl, (blk_cell BK456.out 1).trans rfl, (blk_cell BK456.out 2).trans rfl, (blk_cell BK456.out 3).trans rfl, (blk_cell BK456.out 4).trans rfl, (blk_cell BK456.out 5).trans rfl, (blk_cell BK456.out 6).trans rfl, (blk_cell BK456.out 7).trans rfl, (blk_cell BK456.out 8).trans rfl, (blk_cell BK444.out 0).trans rfl, (blk_cell BK444.out 1).trans rfl, (blk_cell BK444.out 2).trans rfl, (blk_cell BK444.out 3).trans rfl, (blk_cell BK444.out 4).trans rfl, (blk_cell BK444.out 5).trans rfl, (blk_cell BK444.out 6).trans rfl, (blk_cell BK444.out 7).trans rfl⟩ (fun hHeld => ?_); refine with_tabW laws_FnNote.tab11 laws_FnNote.bits11 (fun HT_ HW_ => ?_)
           generalize wc.drew = w75 at HO_9 HO_10 BK444 BK456 HB hHeld ⊢
           refine pure_ (i := 0) (N := some 56) (v := ?_) (a' := ?_) q26 rfl rfl (any_of HT_.out (by kernel_rfl)) (fun _ _ _ h => h) (Or.inl ⟨by rfl, ?_⟩) ?_ ?_
           rotate_left
           ·intro w'
            go_simp
            with_reducible rfl
           rotate_left
           ·simp only [Act.put, sI, sZ, sS, i64_w, i32_w]
            rfl
           refine take_ (i := 1) (N := some 57) (v := ?_) (a' := ?_) q27 rfl rfl (take_ofW HT_.out HW_.out (by kernel_rfl)) (fun _ _ _ h => h) (Or.inl ⟨by rfl, ?_⟩) hHeld ?_ ?_
           rotate_left
           ·rintro w' ⟨s0, s1, s2, s3, s4, s5, s6, s7, s8, s9, s10, s11, s12, s13, s14, s15, s16⟩
            go_simp
            with_reducible rfl
           rotate_left
           ·simp only [Act.put, sI, sZ, sS, i64_w, i32_w]
            rfl
           refine pure_ (i := 2) (N := some 58) (v := ?_) (a' := ?_) q28 rfl rfl (any_of HT_.out (by kernel_rfl)) (fun _ _ _ h => h) (Or.inl ⟨by rfl, ?_⟩) ?_ ?_
           rotate_left
           ·intro w'
            go_simp
            with_reducible rfl
           rotate_left
           ·simp only [Act.put, sI, sZ, sS, i64_w, i32_w]
            rfl
           refine pure_ (i := 3) (N := some 59) (v := ?_) (a' := ?_) q29 rfl rfl (any_of HT_.out (by kernel_rfl)) (fun _ _ _ h => h) (Or.inl ⟨by rfl, ?_⟩) ?_ ?_
           rotate_left
           ·intro w'
            go_simp
            with_reducible rfl
           rotate_left
           ·simp only [Act.put, sI, sZ, sS, i64_w, i32_w]
            rfl
           refine pure_ (i := 4) (N := some 60) (v := undef) (a' := ?_) q30 rfl rfl (any_of HT_.out (by kernel_rfl)) (fun _ _ _ h => h) (Or.inr ⟨by rfl, rfl⟩) ?_ ?_
           rotate_left
           ·simp only [Act.put, sI, sZ, sS, i64_w, i32_w]
            rfl
           refine pure_ (i := 5) (N := some 61) (v := undef) (a' := ?_) q54 rfl rfl (any_of HT_.out (by kernel_rfl)) (fun _ _ _ h => h) (Or.inr ⟨by rfl, rfl⟩) ?_ ?_
           rotate_left
           ·simp only [Act.put, sI, sZ, sS, i64_w, i32_w]
            rfl
           refine pure_ (i := 6) (N := some 62) (v := undef) (a' := ?_) q55 rfl rfl (any_of HT_.out (by kernel_rfl)) (fun _ _ _ h => h) (Or.inr ⟨by rfl, rfl⟩) ?_ ?_
           rotate_left
           ·simp only [Act.put, sI, sZ, sS, i64_w, i32_w]
            rfl
           refine pure_ (i := 7) (N := some 63) (v := undef) (a' := ?_) q33 rfl rfl (any_of HT_.out (by kernel_rfl)) (fun _ _ _ h => h) (Or.inr ⟨by rfl, rfl⟩) ?_ ?_
           rotate_left
           ·simp only [Act.put, sI, sZ, sS, i64_w, i32_w]
            rfl
           refine pure_ (i := 8) (N := some 64) (v := undef) (a' := ?_) q34 rfl rfl (any_of HT_.out (by kernel_rfl)) (fun _ _ _ h => h) (Or.inr ⟨by rfl, rfl⟩) ?_ ?_
           rotate_left
           ·simp only [Act.put, sI, sZ, sS, i64_w, i32_w]
            rfl
           refine pure_ (i := 9) (N := some 65) (v := ?_) (a' := ?_) q35 rfl rfl (any_of HT_.out (by kernel_rfl)) (fun _ _ _ h => h) (Or.inl ⟨by rfl, ?_⟩) ?_ ?_
           rotate_left
           ·intro w'
            go_simp
            with_reducible rfl
           rotate_left
           ·simp only [Act.put, sI, sZ, sS, i64_w, i32_w]
            rfl
           refine pure_ (i := 10) (N := some 66) (v := ?_) (a' := ?_) q36 rfl rfl (any_of HT_.out (by kernel_rfl)) (fun _ _ _ h => h) (Or.inl ⟨by rfl, ?_⟩) ?_ ?_
           rotate_left
           ·intro w'
            go_simp
            with_reducible rfl
           rotate_left
           ·simp only [Act.put, sI, sZ, sS, i64_w, i32_w]
            rfl
           refine pure_ (i := 11) (N := some 67) (v := ?_) (a' := ?_) q37 rfl rfl (any_of HT_.out (by kernel_rfl)) (fun _ _ _ h => h) (Or.inl ⟨by rfl, ?_⟩) ?_ ?_
           rotate_left
           ·intro w'
            go_simp
            with_reducible rfl
           rotate_left
           ·simp only [Act.put, sI, sZ, sS, i64_w, i32_w]
            rfl
           refine pure_ (i := 12) (N := some 68) (v := ?_) (a' := ?_) q38 rfl rfl (any_of HT_.out (by kernel_rfl)) (fun _ _ _ h => h) (Or.inl ⟨by rfl, ?_⟩) ?_ ?_
           rotate_left
           ·intro w'
            go_simp
            with_reducible rfl
           rotate_left
           ·simp only [Act.put, sI, sZ, sS, i64_w, i32_w]
            rfl
           refine pure_ (i := 13) (N := some 69) (v := ?_) (a' := ?_) q39 rfl rfl (any_of HT_.out (by kernel_rfl)) (fun _ _ _ h => h) (Or.inl ⟨by rfl, ?_⟩) ?_ ?_
           rotate_left
           ·intro w'
            go_simp
            with_reducible rfl
           rotate_left
           ·simp only [Act.put, sI, sZ, sS, i64_w, i32_w]
            rfl
           refine pure_ (i := 14) (N := some 70) (v := ?_) (a' := ?_) q40 rfl rfl (any_of HT_.out (by kernel_rfl)) (fun _ _ _ h => h) (Or.inl ⟨by rfl, ?_⟩) ?_ ?_
           rotate_left
           ·intro w'
            go_simp
            with_reducible rfl
           rotate_left
           ·simp only [Act.put, sI, sZ, sS, i64_w, i32_w]
            rfl
           refine take_ (i := 16) (N := some 72) (v := ?_) (a' := ?_) q52 rfl rfl (take_ofW HT_.out HW_.out (by kernel_rfl)) (fun _ _ _ h => h) (Or.inl ⟨by rfl, ?_⟩) hHeld ?_ ?_
           rotate_left
           ·rintro w' ⟨s0, s1, s2, s3, s4, s5, s6, s7, s8, s9, s10, s11, s12, s13, s14, s15, s16⟩
            go_simp
            with_reducible rfl
           rotate_left
           ·simp only [Act.put, sI, sZ, sS, i64_w, i32_w]
            rfl
           refine pure_ (i := 17) (N := some 73) (v := ?_) (a' := ?_) q53 rfl rfl (any_of HT_.out (by kernel_rfl)) (fun _ _ _ h => h) (Or.inl ⟨by rfl, ?_⟩) ?_ ?_
           rotate_left
           ·intro w'
            go_simp
            with_reducible rfl
           rotate_left
           ·simp only [Act.put, sI, sZ, sS, i64_w, i32_w]
            rfl
           refine one_ (i := 15) (N := some 71) q43 rfl rfl (one_of HT_.out (by kernel_rfl)) (by decide) (fun K hK => ?_)
           refine goes_ Try.func25 (by kernel_rfl) rfl #[.string t445] (by rfl) rfl rfl (by (try simp only [mA, mC, mN]); first | done | rfl | (simp only [List.length_drop, List.length_take]; rfl)) ?_
           with_reducible refine (impl_NoteRead.calls kj11 t445 t489 t490 t491 t492 t493 t494 t495 t496 t497 _ A73.out).mono ?_
           rintro e w76 ⟨rfl, hb⟩
           refine ⟨_, rfl, ?_⟩
           have n0_ := Aside0.mk (Kd.R_below (by (with_reducible repeat (first | apply Kd.R_alloc | apply Kd.R_drewN | apply Kd.R_drew)); exact HO_9.out) hb)
           have n1_ := Aside0.mk (Kd.R_below (by (with_reducible repeat (first | apply Kd.R_alloc | apply Kd.R_drewN | apply Kd.R_drew)); exact HO_10.out) hb)
           have n2_ := Aside0.mk (blk_below (g := gb444) (by (with_reducible repeat (first | refine blk_drewN ?_ _ | refine blk_drew ?_ | refine blk_alloc ?_ _)); exact BK444.out) hb)
           have n3_ := Aside0.mk (blk_below (g := gb456) (by (with_reducible repeat (first | refine blk_drewN ?_ _ | refine blk_drew ?_ | refine blk_alloc ?_ _)); exact BK456.out) hb)
           have n4_ := Aside0.mk (below_step (by repeat (first | (with_reducible first | exact HB.out | apply below_alloc | apply pw_below_drewN | apply below_drew1 | refine below_set ?_ GE444.out | refine below_set ?_ GE456.out) | exact HB.out)) hb)
           clear HO_9
           clear HO_10
           clear BK444
           clear BK456
           clear HB
           have HO_9 := n0_
           have HO_10 := n1_
           have BK444 := n2_
           have BK456 := n3_
           have HB := n4_
           clear n0_ n1_ n2_ n3_ n4_
           (try clear hb)
           (try clear hb2)
           (try clear hk)
           (try clear hi)
           refine hK.out _ _ ⟨(blk_cell BK456.out 0).trans rfl, (blk_cell BK456.out 1).trans rfl, (blk_cell BK456.out 2).trans rfl, (blk_cell BK456.out 3).trans rfl, (blk_cell BK456.out 4).trans rfl, (blk_cell BK456.out 5).trans rfl, (blk_cell BK456.out 6).trans rfl, (blk_cell BK456.out 7).trans rfl, (blk_cell BK456.out 8).trans rfl, (blk_cell BK444.out 0).trans rfl, (blk_cell BK444.out 1).trans rfl, (blk_cell BK444.out 2).trans rfl, (blk_cell BK444.out 3).trans rfl, (blk_cell BK444.out 4).trans rfl, (blk_cell BK444.out 5).trans rfl, (blk_cell BK444.out 6).trans rfl, (blk_cell BK444.out 7).trans rfl⟩ (fun hHeld => ?_)
           clear hK K
           refine norm_ (a' := ?_) ?_ ?_
           rotate_left
           ·show Act.put _ (some 71) _ = _
            simp only [Act.put, sI, sZ, sS, i64_w, i32_w]
            rfl
           refine pure_ (i := 18) (N := some 74) (v := ?_) (a' := ?_) q44 rfl rfl (any_of HT_.out (by kernel_rfl)) (fun _ _ _ h => h) (Or.inl ⟨by rfl, ?_⟩) ?_ ?_
           rotate_left
           ·intro w'
            go_simp
            with_reducible rfl
           rotate_left
           ·simp only [Act.put, sI, sZ, sS, i64_w, i32_w]
            rfl
           refine pure_ (i := 19) (N := some 75) (v := ?_) (a' := ?_) q45 rfl rfl (any_of HT_.out (by kernel_rfl)) (fun _ _ _ h => h) (Or.inl ⟨by rfl, ?_⟩) ?_ ?_
           rotate_left
           ·intro w'
            go_simp
            with_reducible rfl
           rotate_left
           ·simp only [Act.put, sI, sZ, sS, i64_w, i32_w]
            rfl
           refine pure_ (i := 20) (N := some 76) (v := undef) (a' := ?_) q46 rfl rfl (any_of HT_.out (by kernel_rfl)) (fun _ _ _ h => h) (Or.inr ⟨by rfl, rfl⟩) ?_ ?_
           rotate_left
           ·simp only [Act.put, sI, sZ, sS, i64_w, i32_w]
            rfl
           refine pure_ (i := 21) (N := some 77) (v := undef) (a' := ?_) q47 rfl rfl (any_of HT_.out (by kernel_rfl)) (fun _ _ _ h => h) (Or.inr ⟨by rfl, rfl⟩) ?_ ?_
           rotate_left
           ·simp only [Act.put, sI, sZ, sS, i64_w, i32_w]
            rfl
           refine pure_ (i := 22) (N := some 78) (v := undef) (a' := ?_) q48 rfl rfl (any_of HT_.out (by kernel_rfl)) (fun _ _ _ h => h) (Or.inr ⟨by rfl, rfl⟩) ?_ ?_
           rotate_left
           ·simp only [Act.put, sI, sZ, sS, i64_w, i32_w]
            rfl
           refine pure_ (i := 23) (N := some 79) (v := ?_) (a' := ?_) q49 rfl rfl (any_of HT_.out (by kernel_rfl)) (fun _ _ _ h => h) (Or.inl ⟨by rfl, ?_⟩) ?_ ?_
           rotate_left
           ·intro w'
            go_simp
            with_reducible rfl
           rotate_left
           ·simp only [Act.put, sI, sZ, sS, i64_w, i32_w]
            rfl
           refine pure_ (i := 24) (N := some 80) (v := ?_) (a' := ?_) q50 rfl rfl (any_of HT_.out (by kernel_rfl)) (fun _ _ _ h => h) (Or.inl ⟨by rfl, ?_⟩) ?_ ?_
           rotate_left
           ·intro w'
            go_simp
            with_reducible rfl
           rotate_left
           ·simp only [Act.put, sI, sZ, sS, i64_w, i32_w]
            rfl
           refine pure_ (i := 25) (N := some 81) (v := ?_) (a' := ?_) q51 rfl rfl (any_of HT_.out (by kernel_rfl)) (fun _ _ _ h => h) (Or.inl ⟨by rfl, ?_⟩) ?_ ?_
           rotate_left
           ·intro w'
            go_simp
            with_reducible rfl
           rotate_left
           ·simp only [Act.put, sI, sZ, sS, i64_w, i32_w]
            rfl
           refine done_ (done_of HT_.out (by kernel_rfl)) ?_
           try go_wp2
           go_meet
           case rel => exact ⟨_, (true), (by first | rfl | (simp; done) | (simp [*]; done)), H', ⟨by have := HJ2.out; have := HJ11.out; first | omega | exact Nat.le_refl _⟩, ⟨by (with_reducible repeat (first | apply Kd.R_alloc | apply Kd.R_drewN | apply Kd.R_drew)); exact HO_9.out⟩, ⟨by (with_reducible repeat (first | apply Kd.R_alloc | apply Kd.R_drewN | apply Kd.R_drew)); exact HO_10.out⟩, ⟨by (with_reducible repeat (first | refine blk_drewN ?_ _ | refine blk_drew ?_ | refine blk_alloc ?_ _)); exact BK444.out⟩, ⟨by (with_reducible repeat (first | refine blk_drewN ?_ _ | refine blk_drew ?_ | refine blk_alloc ?_ _)); exact BK456.out⟩, ⟨by repeat (first | (with_reducible first | exact HB.out | apply below_alloc | apply pw_below_drewN | apply below_drew1 | refine below_set ?_ GE444.out | refine below_set ?_ GE456.out) | exact HB.out)⟩⟩
          ·rw [if_neg c74] at H
           have c74b0 : ((!(t489 == t436) || ((!(t490 == t437) || (!(t491 == t438) || (!(t492 == t439) || (!(t493 == t440) || (!(t494 == t441) || (!(t495 == t442) || (!(t496 == t443)))))))))) || (!(t497 == 0))) = false := by simpa using c74
           clear c74
           have H' := Aside0.mk H
           clear H
           try go_wp2
           have n0_ := Aside0.mk (Kd.R_drew HO_9.out)
           have n1_ := Aside0.mk (Kd.R_drew HO_10.out)
           have n2_ := Aside0.mk (blk_drew BK444.out)
           have n3_ := Aside0.mk (blk_drew BK456.out)
           have n4_ := Aside0.mk (below_drew1 HB.out)
           clear HO_9
           clear HO_10
           clear BK444
           clear BK456
           clear HB
           have HO_9 := n0_
           have HO_10 := n1_
           have BK444 := n2_
           have BK456 := n3_
           have HB := n4_
           clear n0_ n1_ n2_ n3_ n4_
           refine start_ (n := 26) (S := fun w' => w'.cell? ⟨gb456, 0, none⟩ = some (.int .i64 t447) ∧ w'.cell? ⟨gb456, 1, none⟩ = some (.int .i64 t448) ∧ w'.cell? ⟨gb456, 2, none⟩ = some (.int .i64 t449) ∧ w'.cell? ⟨gb456, 3, none⟩ = some (.int .i64 t450) ∧ w'.cell? ⟨gb456, 4, none⟩ = some (.int .i64 t451) ∧ w'.cell? ⟨gb456, 5, none⟩ = some (.int .i64 t452) ∧ w'.cell? ⟨gb456, 6, none⟩ = some (.int .i64 t453) ∧ w'.cell? ⟨gb456, 7, none⟩ = some (.bool t454) ∧ w'.cell? ⟨gb456, 8, none⟩ = some (.int .i64 t455) ∧ w'.cell? ⟨gb444, 0, none⟩ = some (.int .i64 t436) ∧ w'.cell? ⟨gb444, 1, none⟩ = some (.int .i64 t437) ∧ w'.cell? ⟨gb444, 2, none⟩ = some (.int .i64 t438) ∧ w'.cell? ⟨gb444, 3, none⟩ = some (.int .i64 t439) ∧ w'.cell? ⟨gb444, 4, none⟩ = some (.int .i64 t440) ∧ w'.cell? ⟨gb444, 5, none⟩ = some (.int .i64 t441) ∧ w'.cell? ⟨gb444, 6, none⟩ = some (.int .i64 t442) ∧ w'.cell? ⟨gb444, 7, none⟩ = some (.bool t443)) (ds := []) q25 (by kernel_rfl) rfl rfl ⟨(blk_cell BK456.out 0).trans rfl, (blk_cell BK456.out 1).trans rfl, (blk_cell BK456.out 2).trans rfl, (blk_cell BK456.out 3).trans rfl, (blk_cell BK456.out 4).trans rfl, (blk_cell BK456.out 5).trans rfl, (blk_cell BK456.out 6).trans rfl, (blk_cell BK456.out 7).trans rfl, (blk_cell BK456.out 8).trans rfl, (blk_cell BK444.out 0).trans rfl, (blk_cell BK444.out 1).trans rfl, (blk_cell BK444.out 2).trans rfl, (blk_cell BK444.out 3).trans rfl, (blk_cell BK444.out 4).trans rfl, (blk_cell BK444.out 5).trans rfl, (blk_cell BK444.out 6).trans rfl, (blk_cell BK444.out 7).trans rfl⟩ (fun hHeld => ?_); refine with_tabW laws_FnNote.tab11 laws_FnNote.bits11 (fun HT_ HW_ => ?_)
           generalize wc.drew = w77 at HO_9 HO_10 BK444 BK456 HB hHeld ⊢
           refine pure_ (i := 0) (N := some 56) (v := ?_) (a' := ?_) q26 rfl rfl (any_of HT_.out (by kernel_rfl)) (fun _ _ _ h => h) (Or.inl ⟨by rfl, ?_⟩) ?_ ?_
           rotate_left
           ·intro w'
            go_simp
            with_reducible rfl
           rotate_left
           ·simp only [Act.put, sI, sZ, sS, i64_w, i32_w]
            rfl
           refine take_ (i := 1) (N := some 57) (v := ?_) (a' := ?_) q27 rfl rfl (take_ofW HT_.out HW_.out (by kernel_rfl)) (fun _ _ _ h => h) (Or.inl ⟨by rfl, ?_⟩) hHeld ?_ ?_
           rotate_left
           ·rintro w' ⟨s0, s1, s2, s3, s4, s5, s6, s7, s8, s9, s10, s11, s12, s13, s14, s15, s16⟩
            go_simp
            with_reducible rfl
           rotate_left
           ·simp only [Act.put, sI, sZ, sS, i64_w, i32_w]
            rfl
           refine pure_ (i := 2) (N := some 58) (v := ?_) (a' := ?_) q28 rfl rfl (any_of HT_.out (by kernel_rfl)) (fun _ _ _ h => h) (Or.inl ⟨by rfl, ?_⟩) ?_ ?_
           rotate_left
           ·intro w'
            go_simp
            with_reducible rfl
           rotate_left
           ·simp only [Act.put, sI, sZ, sS, i64_w, i32_w]
            rfl
           refine pure_ (i := 3) (N := some 59) (v := ?_) (a' := ?_) q29 rfl rfl (any_of HT_.out (by kernel_rfl)) (fun _ _ _ h => h) (Or.inl ⟨by rfl, ?_⟩) ?_ ?_
           rotate_left
           ·intro w'
            go_simp
            with_reducible rfl
           rotate_left
           ·simp only [Act.put, sI, sZ, sS, i64_w, i32_w]
            rfl
           refine pure_ (i := 4) (N := some 60) (v := undef) (a' := ?_) q30 rfl rfl (any_of HT_.out (by kernel_rfl)) (fun _ _ _ h => h) (Or.inr ⟨by rfl, rfl⟩) ?_ ?_
           rotate_left
           ·simp only [Act.put, sI, sZ, sS, i64_w, i32_w]
            rfl
           refine pure_ (i := 5) (N := some 61) (v := undef) (a' := ?_) q54 rfl rfl (any_of HT_.out (by kernel_rfl)) (fun _ _ _ h => h) (Or.inr ⟨by rfl, rfl⟩) ?_ ?_
           rotate_left
           ·simp only [Act.put, sI, sZ, sS, i64_w, i32_w]
            rfl
           refine pure_ (i := 6) (N := some 62) (v := undef) (a' := ?_) q55 rfl rfl (any_of HT_.out (by kernel_rfl)) (fun _ _ _ h => h) (Or.inr ⟨by rfl, rfl⟩) ?_ ?_
           rotate_left
           ·simp only [Act.put, sI, sZ, sS, i64_w, i32_w]
            rfl
           refine pure_ (i := 7) (N := some 63) (v := undef) (a' := ?_) q33 rfl rfl (any_of HT_.out (by kernel_rfl)) (fun _ _ _ h => h) (Or.inr ⟨by rfl, rfl⟩) ?_ ?_
           rotate_left
           ·simp only [Act.put, sI, sZ, sS, i64_w, i32_w]
            rfl
           refine pure_ (i := 8) (N := some 64) (v := undef) (a' := ?_) q34 rfl rfl (any_of HT_.out (by kernel_rfl)) (fun _ _ _ h => h) (Or.inr ⟨by rfl, rfl⟩) ?_ ?_
           rotate_left
           ·simp only [Act.put, sI, sZ, sS, i64_w, i32_w]
            rfl
           refine pure_ (i := 9) (N := some 65) (v := ?_) (a' := ?_) q35 rfl rfl (any_of HT_.out (by kernel_rfl)) (fun _ _ _ h => h) (Or.inl ⟨by rfl, ?_⟩) ?_ ?_
           rotate_left
           ·intro w'
            go_simp
            with_reducible rfl
           rotate_left
           ·simp only [Act.put, sI, sZ, sS, i64_w, i32_w]
            rfl
           refine pure_ (i := 10) (N := some 66) (v := ?_) (a' := ?_) q36 rfl rfl (any_of HT_.out (by kernel_rfl)) (fun _ _ _ h => h) (Or.inl ⟨by rfl, ?_⟩) ?_ ?_
           rotate_left
           ·intro w'
            go_simp
            with_reducible rfl
           rotate_left
           ·simp only [Act.put, sI, sZ, sS, i64_w, i32_w]
            rfl
           refine pure_ (i := 11) (N := some 67) (v := ?_) (a' := ?_) q37 rfl rfl (any_of HT_.out (by kernel_rfl)) (fun _ _ _ h => h) (Or.inl ⟨by rfl, ?_⟩) ?_ ?_
           rotate_left
           ·intro w'
            go_simp
            with_reducible rfl
           rotate_left
           ·simp only [Act.put, sI, sZ, sS, i64_w, i32_w]
            rfl
           refine pure_ (i := 12) (N := some 68) (v := ?_) (a' := ?_) q38 rfl rfl (any_of HT_.out (by kernel_rfl)) (fun _ _ _ h => h) (Or.inl ⟨by rfl, ?_⟩) ?_ ?_
           rotate_left
           ·intro w'
            go_simp
            with_reducible rfl
           rotate_left
           ·simp only [Act.put, sI, sZ, sS, i64_w, i32_w]
            rfl
           refine pure_ (i := 13) (N := some 69) (v := ?_) (a' := ?_) q39 rfl rfl (any_of HT_.out (by kernel_rfl)) (fun _ _ _ h => h) (Or.inl ⟨by rfl, ?_⟩) ?_ ?_
           rotate_left
           ·intro w'
            go_simp
            with_reducible rfl
           rotate_left
           ·simp only [Act.put, sI, sZ, sS, i64_w, i32_w]
            rfl
           refine pure_ (i := 14) (N := some 70) (v := ?_) (a' := ?_) q40 rfl rfl (any_of HT_.out (by kernel_rfl)) (fun _ _ _ h => h) (Or.inl ⟨by rfl, ?_⟩) ?_ ?_
           rotate_left
           ·intro w'
            go_simp
            with_reducible rfl
           rotate_left
           ·simp only [Act.put, sI, sZ, sS, i64_w, i32_w]
            rfl
           refine take_ (i := 16) (N := some 72) (v := ?_) (a' := ?_) q52 rfl rfl (take_ofW HT_.out HW_.out (by kernel_rfl)) (fun _ _ _ h => h) (Or.inl ⟨by rfl, ?_⟩) hHeld ?_ ?_
           rotate_left
           ·rintro w' ⟨s0, s1, s2, s3, s4, s5, s6, s7, s8, s9, s10, s11, s12, s13, s14, s15, s16⟩
            go_simp
            with_reducible rfl
           rotate_left
           ·simp only [Act.put, sI, sZ, sS, i64_w, i32_w]
            rfl
           refine pure_ (i := 17) (N := some 73) (v := ?_) (a' := ?_) q53 rfl rfl (any_of HT_.out (by kernel_rfl)) (fun _ _ _ h => h) (Or.inl ⟨by rfl, ?_⟩) ?_ ?_
           rotate_left
           ·intro w'
            go_simp
            with_reducible rfl
           rotate_left
           ·simp only [Act.put, sI, sZ, sS, i64_w, i32_w]
            rfl
           refine one_ (i := 15) (N := some 71) q43 rfl rfl (one_of HT_.out (by kernel_rfl)) (by decide) (fun K hK => ?_)
           refine goes_ Try.func25 (by kernel_rfl) rfl #[.string t445] (by rfl) rfl rfl (by (try simp only [mA, mC, mN]); first | done | rfl | (simp only [List.length_drop, List.length_take]; rfl)) ?_
           with_reducible refine (impl_NoteRead.calls kj11 t445 t489 t490 t491 t492 t493 t494 t495 t496 t497 _ A73.out).mono ?_
           rintro e w78 ⟨rfl, hb⟩
           refine ⟨_, rfl, ?_⟩
           have n0_ := Aside0.mk (Kd.R_below (by (with_reducible repeat (first | apply Kd.R_alloc | apply Kd.R_drewN | apply Kd.R_drew)); exact HO_9.out) hb)
           have n1_ := Aside0.mk (Kd.R_below (by (with_reducible repeat (first | apply Kd.R_alloc | apply Kd.R_drewN | apply Kd.R_drew)); exact HO_10.out) hb)
           have n2_ := Aside0.mk (blk_below (g := gb444) (by (with_reducible repeat (first | refine blk_drewN ?_ _ | refine blk_drew ?_ | refine blk_alloc ?_ _)); exact BK444.out) hb)
           have n3_ := Aside0.mk (blk_below (g := gb456) (by (with_reducible repeat (first | refine blk_drewN ?_ _ | refine blk_drew ?_ | refine blk_alloc ?_ _)); exact BK456.out) hb)
           have n4_ := Aside0.mk (below_step (by repeat (first | (with_reducible first | exact HB.out | apply below_alloc | apply pw_below_drewN | apply below_drew1 | refine below_set ?_ GE444.out | refine below_set ?_ GE456.out) | exact HB.out)) hb)
           clear HO_9
           clear HO_10
           clear BK444
           clear BK456
           clear HB
           have HO_9 := n0_
           have HO_10 := n1_
           have BK444 := n2_
           have BK456 := n3_
           have HB := n4_
           clear n0_ n1_ n2_ n3_ n4_
           (try clear hb)
           (try clear hb2)
           (try clear hk)
           (try clear hi)
           refine hK.out _ _ ⟨(blk_cell BK456.out 0).trans rfl, (blk_cell BK456.out 1).trans rfl, (blk_cell BK456.out 2).trans rfl, (blk_cell BK456.out 3).trans rfl, (blk_cell BK456.out 4).trans rfl, (blk_cell BK456.out 5).trans rfl, (blk_cell BK456.out 6).trans rfl, (blk_cell BK456.out 7).trans rfl, (blk_cell BK456.out 8).trans rfl, (blk_cell BK444.out 0).trans rfl, (blk_cell BK444.out 1).trans rfl, (blk_cell BK444.out 2).trans rfl, (blk_cell BK444.out 3).trans rfl, (blk_cell BK444.out 4).trans rfl, (blk_cell BK444.out 5).trans rfl, (blk_cell BK444.out 6).trans rfl, (blk_cell BK444.out 7).trans rfl⟩ (fun hHeld => ?_)
           clear hK K
           refine norm_ (a' := ?_) ?_ ?_
           rotate_left
           ·show Act.put _ (some 71) _ = _
            simp only [Act.put, sI, sZ, sS, i64_w, i32_w]
            rfl
           refine pure_ (i := 18) (N := some 74) (v := ?_) (a' := ?_) q44 rfl rfl (any_of HT_.out (by kernel_rfl)) (fun _ _ _ h => h) (Or.inl ⟨by rfl, ?_⟩) ?_ ?_
           rotate_left
           ·intro w'
            go_simp
            with_reducible rfl
           rotate_left
           ·simp only [Act.put, sI, sZ, sS, i64_w, i32_w]
            rfl
           refine pure_ (i := 19) (N := some 75) (v := ?_) (a' := ?_) q45 rfl rfl (any_of HT_.out (by kernel_rfl)) (fun _ _ _ h => h) (Or.inl ⟨by rfl, ?_⟩) ?_ ?_
           rotate_left
           ·intro w'
            go_simp
            with_reducible rfl
           rotate_left
           ·simp only [Act.put, sI, sZ, sS, i64_w, i32_w]
            rfl
           refine pure_ (i := 20) (N := some 76) (v := ?_) (a' := ?_) q46 rfl rfl (any_of HT_.out (by kernel_rfl)) (fun _ _ _ h => h) (Or.inl ⟨by rfl, ?_⟩) ?_ ?_
           rotate_left
           ·intro w'
            go_simp
            with_reducible rfl
           rotate_left
           ·simp only [Act.put, sI, sZ, sS, i64_w, i32_w]
            rfl
           refine pure_ (i := 21) (N := some 77) (v := ?_) (a' := ?_) q47 rfl rfl (any_of HT_.out (by kernel_rfl)) (fun _ _ _ h => h) (Or.inl ⟨by rfl, ?_⟩) ?_ ?_
           rotate_left
           ·intro w'
            go_simp
            with_reducible rfl
           rotate_left
           ·simp only [Act.put, sI, sZ, sS, i64_w, i32_w]
            rfl
           refine pure_ (i := 22) (N := some 78) (v := ?_) (a' := ?_) q48 rfl rfl (any_of HT_.out (by kernel_rfl)) (fun _ _ _ h => h) (Or.inl ⟨by rfl, ?_⟩) ?_ ?_
           rotate_left
           ·intro w'
            go_simp
            with_reducible rfl
           rotate_left
           ·simp only [Act.put, sI, sZ, sS, i64_w, i32_w]
            rfl
           refine pure_ (i := 23) (N := some 79) (v := ?_) (a' := ?_) q49 rfl rfl (any_of HT_.out (by kernel_rfl)) (fun _ _ _ h => h) (Or.inl ⟨by rfl, ?_⟩) ?_ ?_
           rotate_left
           ·intro w'
            go_simp
            with_reducible rfl
           rotate_left
           ·simp only [Act.put, sI, sZ, sS, i64_w, i32_w]
            rfl
           refine pure_ (i := 24) (N := some 80) (v := ?_) (a' := ?_) q50 rfl rfl (any_of HT_.out (by kernel_rfl)) (fun _ _ _ h => h) (Or.inl ⟨by rfl, ?_⟩) ?_ ?_
           rotate_left
           ·intro w'
            go_simp
            with_reducible rfl
           rotate_left
           ·simp only [Act.put, sI, sZ, sS, i64_w, i32_w]
            rfl
           refine pure_ (i := 25) (N := some 81) (v := ?_) (a' := ?_) q51 rfl rfl (any_of HT_.out (by kernel_rfl)) (fun _ _ _ h => h) (Or.inl ⟨by rfl, ?_⟩) ?_ ?_
           rotate_left
           ·intro w'
            go_simp
            with_reducible rfl
           rotate_left
           ·simp only [Act.put, sI, sZ, sS, i64_w, i32_w]
            rfl
           refine done_ (done_of HT_.out (by kernel_rfl)) ?_
           try go_wp2
           go_meet
           case rel => exact ⟨_, (decide ((t445.size : Int) > 60)), (by first | rfl | (simp; done) | (simp [*]; done)), H', ⟨by have := HJ2.out; have := HJ11.out; first | omega | exact Nat.le_refl _⟩, ⟨by (with_reducible repeat (first | apply Kd.R_alloc | apply Kd.R_drewN | apply Kd.R_drew)); exact HO_9.out⟩, ⟨by (with_reducible repeat (first | apply Kd.R_alloc | apply Kd.R_drewN | apply Kd.R_drew)); exact HO_10.out⟩, ⟨by (with_reducible repeat (first | refine blk_drewN ?_ _ | refine blk_drew ?_ | refine blk_alloc ?_ _)); exact BK444.out⟩, ⟨by (with_reducible repeat (first | refine blk_drewN ?_ _ | refine blk_drew ?_ | refine blk_alloc ?_ _)); exact BK456.out⟩, ⟨by repeat (first | (with_reducible first | exact HB.out | apply below_alloc | apply pw_below_drewN | apply below_drew1 | refine below_set ?_ GE444.out | refine below_set ?_ GE456.out) | exact HB.out)⟩⟩
       case rest =>
        clear HC54
        try clear c2
        try clear p2
        try clear c7
        try clear c25
        try clear c71
        try clear c71b0
        try clear c71b1
        try clear c74
        try clear c74b0
        obtain ⟨kq, x81_53, rfl, HA, HJ53, HO_9, HO_10, BK444, BK456, HB⟩ := hcut
        cases kq with
        | zero => exact absurd HA.out (by simp [laws_FnNote.j2])
        | succ kj53 =>
         have H := HA.out
         clear HA
         simp only [laws_FnNote.j2] at H
         by_cases c79 : x81_53 = true
         ·subst c79
          have H1 : (some false) = some r := by rw [if_pos rfl] at H; exact H
          clear H
          have H := H1
          clear H1
          obtain rfl := Option.some.inj H
          exact absurd hT.out (by decide)
         ·replace c79 := Bool.eq_false_iff.mpr c79
          subst c79
          have H1 : (if (t460.length : Int) = 0 then (some true) else (laws_FnNote.l0 kj53 t457 t460 0)) = some r := by rw [if_neg (show ¬ (false = true) by decide)] at H; exact H
          clear H
          have H := H1
          clear H1
          by_cases c80 : (t460.length : Int) = 0
          ·rw [if_pos c80] at H
           have c80b0 : ((t460.length : Int) == 0) = true := beq_iff_eq.mpr c80
           have c80b1 : ((t460.length : Int) != 0) = false := bne_eq_false_iff_eq.mpr c80
           clear c80
           obtain rfl := Option.some.inj H
           obtain ⟨Ao81, co81, eo81⟩ := Kd.R_slice HO_10.out
           subst eo81
           go_wp2
           go_ret
           exact ⟨by first | rfl | (simp [errW_none, errW_some] <;> rfl) | (simp [*, errW_none, errW_some] <;> rfl), by repeat (first | (with_reducible first | exact HB.out | apply below_alloc | apply pw_below_drewN | apply below_drew1 | refine below_set ?_ GE444.out | refine below_set ?_ GE456.out) | exact HB.out)⟩
          ·rw [if_neg c80] at H
           have c80b0 : ((t460.length : Int) == 0) = false := beq_eq_false_iff_ne.mpr c80
           have c80b1 : ((t460.length : Int) != 0) = true := bne_iff_ne.mpr c80
           have c80b2 : ¬ (t460 = []) := fun h_ => c80 (by rw [h_]; rfl)
           have H' := Aside0.mk H
           clear H
           obtain ⟨Ao82, co82, eo82⟩ := Kd.R_slice HO_10.out
           subst eo82
           go_wp2
           go_loopg [11] kj53 (fun kq v11 w' => ∃ (x11_4 : Int), v11 = .int .i64 x11_4 ∧ Aside0 (laws_FnNote.l0 kq t457 t460 x11_4 = some r) ∧ Aside0 (kq ≤ kj53) ∧ Aside0 (Kd.R k24 24 w' w.heap.size (fun _ => True) (.slice Ao23 t457.length co23) t457) ∧ Aside0 (Kd.R Kd.string 9 w' w.heap.size (fun _ => True) (.slice Ao82 t460.length co82) t460) ∧ Aside0 (w'.heap[gb444]? = some (.cells #[.int .i64 t436, .int .i64 t437, .int .i64 t438, .int .i64 t439, .int .i64 t440, .int .i64 t441, .int .i64 t442, .bool t443] 42 (0, 0))) ∧ Aside0 (w'.heap[gb456]? = some (.cells #[.int .i64 t447, .int .i64 t448, .int .i64 t449, .int .i64 t450, .int .i64 t451, .int .i64 t452, .int .i64 t453, .bool t454, .int .i64 t455] 46 (0, 0))) ∧ Aside0 (Below w.heap.size w w'))
           case atStart => exact ⟨(0), (by first | rfl | (simp; done) | (simp [*]; done)), H', ⟨Nat.le_refl _⟩, ⟨by (with_reducible repeat (first | apply Kd.R_alloc | apply Kd.R_drewN | apply Kd.R_drew)); exact HO_9.out⟩, ⟨by (with_reducible repeat (first | apply Kd.R_alloc | apply Kd.R_drewN | apply Kd.R_drew)); exact HO_10.out⟩, ⟨by (with_reducible repeat (first | refine blk_drewN ?_ _ | refine blk_drew ?_ | refine blk_alloc ?_ _)); exact BK444.out⟩, ⟨by (with_reducible repeat (first | refine blk_drewN ?_ _ | refine blk_drew ?_ | refine blk_alloc ?_ _)); exact BK456.out⟩, ⟨by repeat (first | (with_reducible first | exact HB.out | apply below_alloc | apply pw_below_drewN | apply below_drew1 | refine below_set ?_ GE444.out | refine below_set ?_ GE456.out) | exact HB.out)⟩⟩
           case round =>
            clear H'
            try clear c2
            try clear p2
            try clear c7
            try clear c8
            try clear c25
            try clear c71
            try clear c71b0
            try clear c71b1
            try clear c74
            try clear c74b0
            try clear c79
            try clear c80
            try clear c80b0
            try clear c80b1
            try clear c80b2
            try clear p2
            obtain ⟨x11_4, rfl, HA, HK4, HO_9, HO_10, BK444, BK456, HB⟩ := hrel
            cases gk with
            | zero => exact absurd HA.out (by simp [laws_FnNote.l0])
            | succ k4 =>
             have H := HA.out
             clear HA
             simp only [laws_FnNote.l0] at H
             by_cases c83 : x11_4 < (t457.length : Int)
             ·rw [if_pos c83] at H
              have c83b0 : decide (x11_4 < (t457.length : Int)) = true := decide_eq_true c83
              clear c83
              by_cases c84 : 0 ≤ x11_4
              ·rw [if_pos c84] at H
               have c84b0 : decide (0 ≤ x11_4) = true := decide_eq_true c84
               clear c84
               by_cases c85 : x11_4 < (t460.length : Int)
               ·rw [if_pos c85] at H
                have c85b0 : decide (x11_4 < (t460.length : Int)) = true := decide_eq_true c85
                clear c85
                replace H := Option.bind_eq_some_iff.mp H
                obtain ⟨⟨t499, t500, t501, t502, t503, t504, t505, t506, t507⟩, A860, H⟩ := H
                try dsimp only at H
                have A86 := Aside0.mk A860
                clear A860
                by_cases c87 : ((!(t499 == 1) || ((!(t500 == ((rd_T24 t457 x11_4).f0)) || (!(t501 == ((rd_T24 t457 x11_4).f1)) || (!(t502 == ((rd_T24 t457 x11_4).f2)) || (!(t503 == ((rd_T24 t457 x11_4).f3)) || (!(t504 == ((rd_T24 t457 x11_4).f4)) || (!(t505 == ((rd_T24 t457 x11_4).f5)) || (!(t506 == ((rd_T24 t457 x11_4).f6))))))))))) || (!(t507 == 0))) = true
                ·rw [if_pos c87] at H
                 have c87b0 : ((!(t499 == 1) || ((!(t500 == ((rd_T24 t457 x11_4).f0)) || (!(t501 == ((rd_T24 t457 x11_4).f1)) || (!(t502 == ((rd_T24 t457 x11_4).f2)) || (!(t503 == ((rd_T24 t457 x11_4).f3)) || (!(t504 == ((rd_T24 t457 x11_4).f4)) || (!(t505 == ((rd_T24 t457 x11_4).f5)) || (!(t506 == ((rd_T24 t457 x11_4).f6))))))))))) || (!(t507 == 0))) = true := c87
                 clear c87
                 obtain rfl := Option.some.inj H
                 exact absurd hT.out (by decide)
                ·rw [if_neg c87] at H
                 have c87b0 : ((!(t499 == 1) || ((!(t500 == ((rd_T24 t457 x11_4).f0)) || (!(t501 == ((rd_T24 t457 x11_4).f1)) || (!(t502 == ((rd_T24 t457 x11_4).f2)) || (!(t503 == ((rd_T24 t457 x11_4).f3)) || (!(t504 == ((rd_T24 t457 x11_4).f4)) || (!(t505 == ((rd_T24 t457 x11_4).f5)) || (!(t506 == ((rd_T24 t457 x11_4).f6))))))))))) || (!(t507 == 0))) = false := by simpa using c87
                 clear c87
                 have H' := Aside0.mk H
                 clear H
                 try go_wp2
                 have n0_ := Aside0.mk (Kd.R_drew HO_9.out)
                 have n1_ := Aside0.mk (Kd.R_drew HO_10.out)
                 have n2_ := Aside0.mk (blk_drew BK444.out)
                 have n3_ := Aside0.mk (blk_drew BK456.out)
                 have n4_ := Aside0.mk (below_drew1 HB.out)
                 clear HO_9
                 clear HO_10
                 clear BK444
                 clear BK456
                 clear HB
                 have HO_9 := n0_
                 have HO_10 := n1_
                 have BK444 := n2_
                 have BK456 := n3_
                 have HB := n4_
                 clear n0_ n1_ n2_ n3_ n4_
                 have p498 : 0 ≤ (x11_4 : Int) := of_decide_eq_true (by first | (with_reducible assumption) | assumption)
                 have q498 : x11_4 < (t460.length : Int) := of_decide_eq_true (by first | (with_reducible assumption) | assumption)
                 obtain ⟨ad498, e498, hx498_0⟩ := Kd.at_string (Kd.R_reads' HO_10.out).2.2 x11_4 p498 q498
                 cases e498
                 replace p498 := eq_true p498
                 replace q498 := eq_true q498
                 have p508 : 0 ≤ (x11_4 : Int) := of_decide_eq_true (by first | (with_reducible assumption) | assumption)
                 have q508 : x11_4 < (t457.length : Int) := of_decide_eq_true (by first | (with_reducible assumption) | assumption)
                 obtain ⟨ad508, e508, hx508_0, hx508_1, hx508_2, hx508_3, hx508_4, hx508_5, hx508_6⟩ := at_T24 (Kd.R_reads' HO_9.out).2.2 x11_4 p508 q508
                 cases e508
                 replace p508 := eq_true p508
                 replace q508 := eq_true q508
                 refine start_ (n := 12) (S := fun w' => w'.cell? (ad498.add (x11_4).toNat) = some (.string (rdOf ByteArray.empty t460 x11_4)) ∧ w'.cell? (ad508.add ((x11_4).toNat * 7)) = some (.int .i64 ((rd_T24 t457 x11_4).f0)) ∧ w'.cell? ⟨(ad508.add ((x11_4).toNat * 7)).block, (ad508.add ((x11_4).toNat * 7)).off + 1, none⟩ = some (.int .i64 ((rd_T24 t457 x11_4).f1)) ∧ w'.cell? ⟨(ad508.add ((x11_4).toNat * 7)).block, (ad508.add ((x11_4).toNat * 7)).off + 2, none⟩ = some (.int .i64 ((rd_T24 t457 x11_4).f2)) ∧ w'.cell? ⟨(ad508.add ((x11_4).toNat * 7)).block, (ad508.add ((x11_4).toNat * 7)).off + 3, none⟩ = some (.int .i64 ((rd_T24 t457 x11_4).f3)) ∧ w'.cell? ⟨(ad508.add ((x11_4).toNat * 7)).block, (ad508.add ((x11_4).toNat * 7)).off + 4, none⟩ = some (.int .i64 ((rd_T24 t457 x11_4).f4)) ∧ w'.cell? ⟨(ad508.add ((x11_4).toNat * 7)).block, (ad508.add ((x11_4).toNat * 7)).off + 5, none⟩ = some (.int .i64 ((rd_T24 t457 x11_4).f5)) ∧ w'.cell? ⟨(ad508.add ((x11_4).toNat * 7)).block, (ad508.add ((x11_4).toNat * 7)).off + 6, none⟩ = some (.bool ((rd_T24 t457 x11_4).f6))) (ds := []) #[false, false, false, false, false, false, false, false, false, false, false, false] (by kernel_rfl) rfl rfl ⟨hx498_0, hx508_0, hx508_1, hx508_2, hx508_3, hx508_4, hx508_5, hx508_6⟩ (fun hHeld => ?_); refine with_tabW laws_FnNote.tab18 laws_FnNote.bits18 (fun HT_ HW_ => ?_)
                 generalize wr.drew = w88 at HO_9 HO_10 BK444 BK456 HB hx498_0 hx508_0 hx508_1 hx508_2 hx508_3 hx508_4 hx508_5 hx508_6 hHeld ⊢
                 refine pure_ (i := 0) (N := some 91) (v := ?_) (a' := ?_) #[true, false, false, false, false, false, false, false, false, false, false, false] rfl rfl (any_of HT_.out (by kernel_rfl)) (fun _ _ _ h => h) (Or.inl ⟨by rfl, ?_⟩) ?_ ?_
                 rotate_left
                 ·intro w'
                  go_simp
                  with_reducible rfl
                 rotate_left
                 ·simp only [Act.put, sI, sZ, sS, i64_w, i32_w]
                  rfl
                 refine pure_ (i := 1) (N := some 92) (v := ?_) (a' := ?_) #[true, true, false, false, false, false, false, false, false, false, false, false] rfl rfl (any_of HT_.out (by kernel_rfl)) (fun _ _ _ h => h) (Or.inl ⟨by rfl, ?_⟩) ?_ ?_
                 rotate_left
                 ·intro w'
                  go_simp
                  with_reducible rfl
                 rotate_left
                 ·simp only [Act.put, sI, sZ, sS, i64_w, i32_w]
                  rfl
                 refine pure_ (i := 2) (N := some 93) (v := ?_) (a' := ?_) #[true, true, true, false, false, false, false, false, false, false, false, false] rfl rfl (any_of HT_.out (by kernel_rfl)) (fun _ _ _ h => h) (Or.inl ⟨by rfl, ?_⟩) ?_ ?_
                 rotate_left
                 ·intro w'
                  go_simp
                  with_reducible rfl
                 rotate_left
                 ·simp only [Act.put, sI, sZ, sS, i64_w, i32_w]
                  rfl
                 refine pure_ (i := 5) (N := some 96) (v := ?_) (a' := ?_) #[true, true, true, false, false, true, false, false, false, false, false, false] rfl rfl (any_of HT_.out (by kernel_rfl)) (fun _ _ _ h => h) (Or.inl ⟨by rfl, ?_⟩) ?_ ?_
                 rotate_left
                 ·intro w'
                  go_simp
                  with_reducible rfl
                 rotate_left
                 ·simp only [Act.put, sI, sZ, sS, i64_w, i32_w]
                  rfl
                 refine pure_ (i := 6) (N := some 97) (v := ?_) (a' := ?_) #[true, true, true, false, false, true, true, false, false, false, false, false] rfl rfl (any_of HT_.out (by kernel_rfl)) (fun _ _ _ h => h) (Or.inl ⟨by rfl, ?_⟩) ?_ ?_
                 rotate_left
                 ·intro w'
                  go_simp
                  with_reducible rfl
                 rotate_left
                 ·simp only [Act.put, sI, sZ, sS, i64_w, i32_w]
                  rfl
                 refine pure_ (i := 7) (N := some 98) (v := ?_) (a' := ?_) #[true, true, true, false, false, true, true, true, false, false, false, false] rfl rfl (any_of HT_.out (by kernel_rfl)) (fun _ _ _ h => h) (Or.inl ⟨by rfl, ?_⟩) ?_ ?_
                 rotate_left
                 ·intro w'
                  go_simp
                  with_reducible rfl
                 rotate_left
                 ·simp only [Act.put, sI, sZ, sS, i64_w, i32_w]
                  rfl
                 refine take_ (i := 3) (N := some 94) (v := ?_) (a' := ?_) #[true, true, true, true, false, true, true, true, false, false, false, false] rfl rfl (take_ofW HT_.out HW_.out (by kernel_rfl)) (fun _ _ _ h => h) (Or.inl ⟨by rfl, ?_⟩) hHeld ?_ ?_
                 rotate_left
                 ·rintro w' ⟨s0, s1, s2, s3, s4, s5, s6, s7⟩
                  go_simp
                  with_reducible rfl
                 rotate_left
                 ·simp only [Act.put, sI, sZ, sS, i64_w, i32_w]
                  rfl
                 refine take_ (i := 8) (N := some 99) (v := ?_) (a' := ?_) #[true, true, true, true, false, true, true, true, true, false, false, false] rfl rfl (take_ofW HT_.out HW_.out (by kernel_rfl)) (fun _ _ _ h => h) (Or.inl ⟨by rfl, ?_⟩) hHeld ?_ ?_
                 rotate_left
                 ·rintro w' ⟨s0, s1, s2, s3, s4, s5, s6, s7⟩
                  go_simp
                  with_reducible rfl
                 rotate_left
                 ·simp only [Act.put, sI, sZ, sS, i64_w, i32_w]
                  rfl
                 refine pure_ (i := 9) (N := some 100) (v := ?_) (a' := ?_) #[true, true, true, true, false, true, true, true, true, true, false, false] rfl rfl (any_of HT_.out (by kernel_rfl)) (fun _ _ _ h => h) (Or.inl ⟨by rfl, ?_⟩) ?_ ?_
                 rotate_left
                 ·intro w'
                  go_simp
                  with_reducible rfl
                 rotate_left
                 ·simp only [Act.put, sI, sZ, sS, i64_w, i32_w]
                  rfl
                 refine pure_ (i := 10) (N := some 101) (v := ?_) (a' := ?_) #[true, true, true, true, false, true, true, true, true, true, true, false] rfl rfl (any_of HT_.out (by kernel_rfl)) (fun _ _ _ h => h) (Or.inl ⟨by rfl, ?_⟩) ?_ ?_
                 rotate_left
                 ·intro w'
                  go_simp
                  with_reducible rfl
                 rotate_left
                 ·simp only [Act.put, sI, sZ, sS, i64_w, i32_w]
                  rfl
                 refine one_ (i := 4) (N := some 95) #[true, true, true, true, true, true, true, true, true, true, true, false] rfl rfl (one_of HT_.out (by kernel_rfl)) (by decide) (fun K hK => ?_)
                 refine goes_ Try.func25 (by kernel_rfl) rfl #[.string (rdOf ByteArray.empty t460 x11_4)] (by rfl) rfl rfl (by (try simp only [mA, mC, mN]); first | done | rfl | (simp only [List.length_drop, List.length_take]; rfl)) ?_
                 with_reducible refine (impl_NoteRead.calls k4 (rdOf ByteArray.empty t460 x11_4) t499 t500 t501 t502 t503 t504 t505 t506 t507 _ A86.out).mono ?_
                 rintro e w89 ⟨rfl, hb⟩
                 have HS0_ := (hb.cell (World.block_lt_of_cell? _ _ (hHeld.1))).trans (hHeld.1)
                 have HS1_ := (hb.cell (World.block_lt_of_cell? _ _ (hHeld.2.1))).trans (hHeld.2.1)
                 have HS2_ := (hb.cell (World.block_lt_of_cell? _ _ (hHeld.2.2.1))).trans (hHeld.2.2.1)
                 have HS3_ := (hb.cell (World.block_lt_of_cell? _ _ (hHeld.2.2.2.1))).trans (hHeld.2.2.2.1)
                 have HS4_ := (hb.cell (World.block_lt_of_cell? _ _ (hHeld.2.2.2.2.1))).trans (hHeld.2.2.2.2.1)
                 have HS5_ := (hb.cell (World.block_lt_of_cell? _ _ (hHeld.2.2.2.2.2.1))).trans (hHeld.2.2.2.2.2.1)
                 have HS6_ := (hb.cell (World.block_lt_of_cell? _ _ (hHeld.2.2.2.2.2.2.1))).trans (hHeld.2.2.2.2.2.2.1)
                 have HS7_ := (hb.cell (World.block_lt_of_cell? _ _ (hHeld.2.2.2.2.2.2.2))).trans (hHeld.2.2.2.2.2.2.2)
                 refine ⟨_, rfl, ?_⟩
                 have n0_ := Aside0.mk (Kd.R_below (by (with_reducible repeat (first | apply Kd.R_alloc | apply Kd.R_drewN | apply Kd.R_drew)); exact HO_9.out) hb)
                 have n1_ := Aside0.mk (Kd.R_below (by (with_reducible repeat (first | apply Kd.R_alloc | apply Kd.R_drewN | apply Kd.R_drew)); exact HO_10.out) hb)
                 have n2_ := Aside0.mk (blk_below (g := gb444) (by (with_reducible repeat (first | refine blk_drewN ?_ _ | refine blk_drew ?_ | refine blk_alloc ?_ _)); exact BK444.out) hb)
                 have n3_ := Aside0.mk (blk_below (g := gb456) (by (with_reducible repeat (first | refine blk_drewN ?_ _ | refine blk_drew ?_ | refine blk_alloc ?_ _)); exact BK456.out) hb)
                 have n4_ := Aside0.mk (below_step (by repeat (first | (with_reducible first | exact HB.out | apply below_alloc | apply pw_below_drewN | apply below_drew1 | refine below_set ?_ GE444.out | refine below_set ?_ GE456.out) | exact HB.out)) hb)
                 clear HO_9
                 clear HO_10
                 clear BK444
                 clear BK456
                 clear HB
                 have HO_9 := n0_
                 have HO_10 := n1_
                 have BK444 := n2_
                 have BK456 := n3_
                 have HB := n4_
                 clear n0_ n1_ n2_ n3_ n4_
                 (try clear hb)
                 (try clear hb2)
                 (try clear hk)
                 (try clear hi)
                 refine hK.out _ _ ⟨HS0_, HS1_, HS2_, HS3_, HS4_, HS5_, HS6_, HS7_⟩ (fun hHeld => ?_)
                 clear hK K
                 refine norm_ (a' := ?_) ?_ ?_
                 rotate_left
                 ·show Act.put _ (some 95) _ = _
                  simp only [Act.put, sI, sZ, sS, i64_w, i32_w]
                  rfl
                 refine pure_ (i := 11) (N := some 102) (v := ?_) (a' := ?_) #[true, true, true, true, true, true, true, true, true, true, true, true] rfl rfl (any_of HT_.out (by kernel_rfl)) (fun _ _ _ h => h) (Or.inl ⟨by rfl, ?_⟩) ?_ ?_
                 rotate_left
                 ·intro w'
                  go_simp
                  with_reducible rfl
                 rotate_left
                 ·simp only [Act.put, sI, sZ, sS, i64_w, i32_w]
                  rfl
                 refine done_ (done_of HT_.out (by kernel_rfl)) ?_
                 try go_wp2
                 go_roundg k4
                 case measure => have := HJ2.out; have := HJ11.out; have := HJ53.out; have := HK4.out; omega
                 case rel => exact ⟨(wrap64 (x11_4 + 1)), (by first | rfl | (simp; done) | (simp [*]; done)), H', ⟨by have := HJ2.out; have := HJ11.out; have := HJ53.out; have := HK4.out; omega⟩, ⟨by (with_reducible repeat (first | apply Kd.R_alloc | apply Kd.R_drewN | apply Kd.R_drew)); exact HO_9.out⟩, ⟨by (with_reducible repeat (first | apply Kd.R_alloc | apply Kd.R_drewN | apply Kd.R_drew)); exact HO_10.out⟩, ⟨by (with_reducible repeat (first | refine blk_drewN ?_ _ | refine blk_drew ?_ | refine blk_alloc ?_ _)); exact BK444.out⟩, ⟨by (with_reducible repeat (first | refine blk_drewN ?_ _ | refine blk_drew ?_ | refine blk_alloc ?_ _)); exact BK456.out⟩, ⟨by repeat (first | (with_reducible first | exact HB.out | apply below_alloc | apply pw_below_drewN | apply below_drew1 | refine below_set ?_ GE444.out | refine below_set ?_ GE456.out) | exact HB.out)⟩⟩
               ·rw [if_neg c85] at H
                exact absurd H (by simp)
              ·rw [if_neg c84] at H
               exact absurd H (by simp)
             ·rw [if_neg c83] at H
              have c83b0 : decide (x11_4 < (t457.length : Int)) = false := decide_eq_false c83
              clear c83
              by_cases c90 : (t460.length : Int) = (wrap64 ((t457.length : Int) + 1))
              ·rw [if_pos c90] at H
               have c90b0 : ((t460.length : Int) == (wrap64 ((t457.length : Int) + 1))) = true := beq_iff_eq.mpr c90
               have c90b1 : ((t460.length : Int) != (wrap64 ((t457.length : Int) + 1))) = false := bne_eq_false_iff_eq.mpr c90
               clear c90
               by_cases c91 : 0 ≤ (t457.length : Int)
               ·rw [if_pos c91] at H
                have c91b0 : decide (0 ≤ (t457.length : Int)) = true := decide_eq_true c91
                have c91b1 : decide (0 ≤ t457.length) = true := decide_eq_true (by omega)
                clear c91
                by_cases c92 : (t457.length : Int) < (t460.length : Int)
                ·rw [if_pos c92] at H
                 have c92b0 : decide ((t457.length : Int) < (t460.length : Int)) = true := decide_eq_true c92
                 have c92b1 : decide (t457.length < t460.length) = true := decide_eq_true (Int.ofNat_lt.mp c92)
                 clear c92
                 replace H := Option.bind_eq_some_iff.mp H
                 obtain ⟨⟨t510, t511, t512, t513, t514, t515, t516, t517, t518⟩, A930, H⟩ := H
                 try dsimp only at H
                 have A93 := Aside0.mk A930
                 clear A930
                 obtain rfl := Option.some.inj H
                 have p509 : 0 ≤ ((t457.length : Int) : Int) := of_decide_eq_true (by first | (with_reducible assumption) | assumption)
                 have q509 : (t457.length : Int) < (t460.length : Int) := of_decide_eq_true (by first | (with_reducible assumption) | assumption)
                 obtain ⟨ad509, e509, hx509_0⟩ := Kd.at_string (Kd.R_reads' HO_10.out).2.2 (t457.length : Int) p509 q509
                 cases e509
                 (try simp only [Go.IntWalk.toNatUp] at hx509_0)
                 replace p509 := eq_true p509
                 replace q509 := eq_true q509
                 go_wp2_with (first | (go_at_call 25; (with_reducible refine (impl_NoteRead.calls k4 (rdOf ByteArray.empty t460 (t457.length : Int)) t510 t511 t512 t513 t514 t515 t516 t517 t518 _ A93.out).mono ?_); rintro e w94 ⟨rfl, hb⟩; have n0_ := Aside0.mk (Kd.R_below (by (with_reducible repeat (first | apply Kd.R_alloc | apply Kd.R_drewN | apply Kd.R_drew)); exact HO_9.out) hb); have n1_ := Aside0.mk (Kd.R_below (by (with_reducible repeat (first | apply Kd.R_alloc | apply Kd.R_drewN | apply Kd.R_drew)); exact HO_10.out) hb); have n2_ := Aside0.mk (blk_below (g := gb444) (o := .cells #[.int .i64 t436, .int .i64 t437, .int .i64 t438, .int .i64 t439, .int .i64 t440, .int .i64 t441, .int .i64 t442, .bool t443] 42 (0, 0)) (by (with_reducible repeat (first | refine blk_drewN ?_ _ | refine blk_drew ?_ | refine blk_alloc ?_ _)); exact BK444.out) hb); have n3_ := Aside0.mk (blk_below (g := gb456) (o := .cells #[.int .i64 t447, .int .i64 t448, .int .i64 t449, .int .i64 t450, .int .i64 t451, .int .i64 t452, .int .i64 t453, .bool t454, .int .i64 t455] 46 (0, 0)) (by (with_reducible repeat (first | refine blk_drewN ?_ _ | refine blk_drew ?_ | refine blk_alloc ?_ _)); exact BK456.out) hb); have n4_ := Aside0.mk (below_step (by repeat (first | (with_reducible first | exact HB.out | apply below_alloc | apply pw_below_drewN | apply below_drew1 | refine below_set ?_ GE444.out | refine below_set ?_ GE456.out) | exact HB.out)) hb); clear HO_9; clear HO_10; clear BK444; clear BK456; clear HB; have HO_9 := n0_; have HO_10 := n1_; have BK444 := n2_; have BK456 := n3_; have HB := n4_; clear n0_ n1_ n2_ n3_ n4_; (try clear hb); (try clear hb2); (try clear hk); (try clear hi)))
                 (try (unfold Instr.field; go_simp; unfold asAgg; go_simp; go_wp2))
                 go_ret
                 exact ⟨by first | rfl | (simp [errW_none, errW_some] <;> rfl) | (simp [*, errW_none, errW_some] <;> rfl), by repeat (first | (with_reducible first | exact HB.out | apply below_alloc | apply pw_below_drewN | apply below_drew1 | refine below_set ?_ GE444.out | refine below_set ?_ GE456.out) | exact HB.out)⟩
                ·rw [if_neg c92] at H
                 exact absurd H (by simp)
               ·rw [if_neg c91] at H
                exact absurd H (by simp)
              ·rw [if_neg c90] at H
               have c90b0 : ((t460.length : Int) == (wrap64 ((t457.length : Int) + 1))) = false := beq_eq_false_iff_ne.mpr c90
               have c90b1 : ((t460.length : Int) != (wrap64 ((t457.length : Int) + 1))) = true := bne_iff_ne.mpr c90
               obtain rfl := Option.some.inj H
               exact absurd hT.out (by decide)
/-- THE ONE PURE STATEMENT of laws_FnNote: yours. -/
def laws_FnNote.Pure : Prop := ∀ (l0 : List Int) (l1 : List Int), l0.length ≤ maxLen → l0.length * 1 ≤ 140737488351232 → (∀ x ∈ l0, (Lit.int .u8 x).wf = true) → l1.length ≤ maxLen → l1.length * 1 ≤ 140737488351232 → (∀ x ∈ l1, (Lit.int .u8 x).wf = true) → ∃ k, laws_FnNote.f k l0 l1 = some true
theorem laws_FnNote.walk (P : laws_FnNote.Pure) (a0 : Option Addr) (len0 cap0 : Nat) (z0 : List Int) (a1 : Option Addr) (len1 cap1 : Nat) (z1 : List Int) (w : World) (w0 : (a0 = none ∧ len0 = 0 ∧ cap0 = 0 ∧ z0 = []) ∨ ∃ x, a0 = some x ∧ len0 ≤ cap0 ∧ cap0 ≤ maxLen ∧ z0.length = cap0 ∧ (∀ i, i < z0.length → w.cell? (x.add i) = some (.int .u8 (z0.getD i 0))) ∧ ∀ n ∈ z0, (Lit.int .u8 n).wf = true) (y0 : len0 * 1 ≤ 140737488351232) (w1 : (a1 = none ∧ len1 = 0 ∧ cap1 = 0 ∧ z1 = []) ∨ ∃ x, a1 = some x ∧ len1 ≤ cap1 ∧ cap1 ≤ maxLen ∧ z1.length = cap1 ∧ (∀ i, i < z1.length → w.cell? (x.add i) = some (.int .u8 (z1.getD i 0))) ∧ ∀ n ∈ z1, (Lit.int .u8 n).wf = true) (y1 : len1 * 1 ≤ 140737488351232) :
  Calls Try.prog 4 #[.slice a0 len0 cap0, .slice a1 len1 cap1] w fun e w' => e = .returned (.bool true) ∧ Below w.heap.size w w' := by
 obtain ⟨l0, rfl, hr0, hm0, hw0, hc0⟩ := ReadsInt.ofRowC w0
 obtain ⟨l1, rfl, hr1, hm1, hw1, hc1⟩ := ReadsInt.ofRowC w1
 obtain ⟨k, h⟩ := P l0 l1 hm0 y0 hw0 hm1 y1 hw1
 refine (laws_FnNote.calls k _ _ l0 _ _ l1 true w (Kd.C_of_reads (d := (0 : Int)) (h1 := fun _ => rfl) hr0) hc0 (Kd.C_of_reads (d := (0 : Int)) (h1 := fun _ => rfl) hr1) hc1 ⟨rfl⟩ h).mono ?_
 rintro e w' ⟨rfl, hd⟩
 exact ⟨rfl, hd⟩
end Go.Proofs.Ytbanbmkfdkbfiaa.PFnNote
