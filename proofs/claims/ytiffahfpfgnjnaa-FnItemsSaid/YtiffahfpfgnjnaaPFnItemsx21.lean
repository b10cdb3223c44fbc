-- Written by a program of this session (myprint.py, over the kit's print): contracts of FnItems
import Derived.Test.YtiffahfpfgnjnaaPFnItemsx0
import Derived.Test.YtiffahfpfgnjnaaPFnItemsx3
import Derived.Test.YtiffahfpfgnjnaaPFnItemsx4
import Derived.Test.YtiffahfpfgnjnaaPFnItemsx7
import Derived.Test.YtiffahfpfgnjnaaPFnItemsx8
import Derived.Test.YtiffahfpfgnjnaaPFnItemsx9
import Derived.Test.YtiffahfpfgnjnaaPFnItemsx10
import Derived.Test.YtiffahfpfgnjnaaPFnItemsx12
import Derived.Test.YtiffahfpfgnjnaaPFnItemsx14
import Derived.Test.YtiffahfpfgnjnaaPFnItemsx15
import Derived.Test.YtiffahfpfgnjnaaPFnItemsx16
import Derived.Test.YtiffahfpfgnjnaaPFnItemsx17
import Derived.Test.YtiffahfpfgnjnaaPFnItemsx19
import Derived.Test.YtiffahfpfgnjnaaPFnItemsx20
namespace Go.Proofs.Ytiffahfpfgnjnaa.PFnItems
open Go.RowKit Go.Proofs.YtiffahfpfgnjnaaW.PrintWords Go.Proofs.YtiffahfpfgnjnaaW.PrintLast Go.Proofs.YtiffahfpfgnjnaaW.PrintMore Go.Proofs.YtiffahfpfgnjnaaV
attribute [local go_sem] max2_int min2_int max_two min_two max_three min_three max_four min_four   -- for this text's walks alone
set_option linter.unusedVariables false
set_option linter.unusedSimpArgs false

attribute [local go_sem high] eqA29
/-! ### laws_FnItems: function 3 -/
mutual
def laws_FnItems.j0 : Nat → List Int → Bool → Bool → Int → Int → ByteArray → Int → Int → Int → ByteArray → Int → Int → Int → ByteArray → Int → Int → Int → Int → Int → Int → Int → ByteArray → Int → Int → Int → ByteArray → Int → Int → Int → ByteArray → Int → Int → Int → Int → Int → Option (Bool)
 | 0, _, _, _, _, _, _, _, _, _, _, _, _, _, _, _, _, _, _, _, _, _, _, _, _, _, _, _, _, _, _, _, _, _, _, _ => none
 | k + 1, x4, x6, x74, x863000, x863001, x863002, x863003, x863004, x863005, x863006, x863007, x863008, x863009, x863010, x863011, x863012, x863013, x863014, x863015, x884000, x884001, x884002, x884003, x884004, x884005, x884006, x884007, x884008, x884009, x884010, x884011, x884012, x884013, x884014, x884015 => if x74 = true then (some false) else (if (x4.length : Int) = 0 then (if x6 = true then (if (x4.length : Int) > 0 then (if (x884000 == x863000 && ((x884001 == x863001 && (x884002.toList == x863002.toList && (x884003 == x863003 && (x884004 == x863004 && (x884005 == x863005 && (x884006.toList == x863006.toList && (x884007 == x863007 && (x884008 == x863008)))))))) && ((x884009 == x863009 && (x884010.toList == x863010.toList && (x884011 == x863011 && (x884012 == x863012 && (x884013 == x863013 && (x884014 == x863014 && (x884015 == x863015)))))))))) = true then (laws_FnItems.j1 k (decide ((x4.length : Int) < 140))) else (laws_FnItems.j1 k false)) else (laws_FnItems.j1 k false)) else (laws_FnItems.j1 k true)) else (if (x4.length : Int) > 0 then (if x6 = true then (if (x884000 == x863000 && ((x884001 == x863001 && (x884002.toList == x863002.toList && (x884003 == x863003 && (x884004 == x863004 && (x884005 == x863005 && (x884006.toList == x863006.toList && (x884007 == x863007 && (x884008 == x863008)))))))) && ((x884009 == x863009 && (x884010.toList == x863010.toList && (x884011 == x863011 && (x884012 == x863012 && (x884013 == x863013 && (x884014 == x863014 && (x884015 == x863015)))))))))) = true then (laws_FnItems.j1 k (decide ((x4.length : Int) < 140))) else (laws_FnItems.j1 k false)) else (laws_FnItems.j1 k false)) else (laws_FnItems.j1 k false)))
def laws_FnItems.j1 : Nat → Bool → Option (Bool)
 | 0, _ => none
 | k + 1, x2 => some x2
end
def laws_FnItems.f (k : Nat) (l0 : List Int) : Option (Bool) := (laws_big.f l0).bind fun t845 => (if t845 = true then (some true) else ((spec_DrawPutItem.f k l0).bind fun bt846 => ((impl_PutItem.f k bt846.1 bt846.2.1 bt846.2.2.1 bt846.2.2.2.1 bt846.2.2.2.2.1 bt846.2.2.2.2.2.1 bt846.2.2.2.2.2.2.1 bt846.2.2.2.2.2.2.2.1 bt846.2.2.2.2.2.2.2.2.1 bt846.2.2.2.2.2.2.2.2.2.1 bt846.2.2.2.2.2.2.2.2.2.2.1 bt846.2.2.2.2.2.2.2.2.2.2.2.1 bt846.2.2.2.2.2.2.2.2.2.2.2.2.1 bt846.2.2.2.2.2.2.2.2.2.2.2.2.2.1 bt846.2.2.2.2.2.2.2.2.2.2.2.2.2.2.1 bt846.2.2.2.2.2.2.2.2.2.2.2.2.2.2.2).bind fun t863 => ((impl_GetItem.f k t863).bind fun bt866 => ((spec_DrawGetItem.f k l0).bind fun t884 => ((impl_GetItem.f k t884).bind fun bt887 => ((spec_GetItem.f k t884).bind fun bt905 => ((spec_DrawAskerOk.f k l0).bind fun bt923 => ((spec_DrawLineOk.f k l0).bind fun bt932 => (if (bt887.2.2.2.2.2.2.2.2.2.2.2.2.2.2.2.2 != bt905.2.2.2.2.2.2.2.2.2.2.2.2.2.2.2.2) = true then (laws_FnItems.j0 k t863 bt866.2.2.2.2.2.2.2.2.2.2.2.2.2.2.2.2 true bt846.1 bt846.2.1 bt846.2.2.1 bt846.2.2.2.1 bt846.2.2.2.2.1 bt846.2.2.2.2.2.1 bt846.2.2.2.2.2.2.1 bt846.2.2.2.2.2.2.2.1 bt846.2.2.2.2.2.2.2.2.1 bt846.2.2.2.2.2.2.2.2.2.1 bt846.2.2.2.2.2.2.2.2.2.2.1 bt846.2.2.2.2.2.2.2.2.2.2.2.1 bt846.2.2.2.2.2.2.2.2.2.2.2.2.1 bt846.2.2.2.2.2.2.2.2.2.2.2.2.2.1 bt846.2.2.2.2.2.2.2.2.2.2.2.2.2.2.1 bt846.2.2.2.2.2.2.2.2.2.2.2.2.2.2.2 bt866.1 bt866.2.1 bt866.2.2.1 bt866.2.2.2.1 bt866.2.2.2.2.1 bt866.2.2.2.2.2.1 bt866.2.2.2.2.2.2.1 bt866.2.2.2.2.2.2.2.1 bt866.2.2.2.2.2.2.2.2.1 bt866.2.2.2.2.2.2.2.2.2.1 bt866.2.2.2.2.2.2.2.2.2.2.1 bt866.2.2.2.2.2.2.2.2.2.2.2.1 bt866.2.2.2.2.2.2.2.2.2.2.2.2.1 bt866.2.2.2.2.2.2.2.2.2.2.2.2.2.1 bt866.2.2.2.2.2.2.2.2.2.2.2.2.2.2.1 bt866.2.2.2.2.2.2.2.2.2.2.2.2.2.2.2.1) else (if bt887.2.2.2.2.2.2.2.2.2.2.2.2.2.2.2.2 = true then ((impl_PutItem.f k bt887.1 bt887.2.1 bt887.2.2.1 bt887.2.2.2.1 bt887.2.2.2.2.1 bt887.2.2.2.2.2.1 bt887.2.2.2.2.2.2.1 bt887.2.2.2.2.2.2.2.1 bt887.2.2.2.2.2.2.2.2.1 bt887.2.2.2.2.2.2.2.2.2.1 bt887.2.2.2.2.2.2.2.2.2.2.1 bt887.2.2.2.2.2.2.2.2.2.2.2.1 bt887.2.2.2.2.2.2.2.2.2.2.2.2.1 bt887.2.2.2.2.2.2.2.2.2.2.2.2.2.1 bt887.2.2.2.2.2.2.2.2.2.2.2.2.2.2.1 bt887.2.2.2.2.2.2.2.2.2.2.2.2.2.2.2.1).bind fun t940 => ((laws_same.f t940 t884).bind fun t943 => (if t943 = true then ((impl_AskerOk.f k bt923.1 bt923.2.1 bt923.2.2.1 bt923.2.2.2.1 bt923.2.2.2.2.1 bt923.2.2.2.2.2.1 bt923.2.2.2.2.2.2.1 bt923.2.2.2.2.2.2.2).bind fun t944 => ((spec_AskerOk.f k bt923.1 bt923.2.1 bt923.2.2.1 bt923.2.2.2.1 bt923.2.2.2.2.1 bt923.2.2.2.2.2.1 bt923.2.2.2.2.2.2.1 bt923.2.2.2.2.2.2.2).bind fun t945 => (if (t944 != t945) = true then (laws_FnItems.j0 k t863 bt866.2.2.2.2.2.2.2.2.2.2.2.2.2.2.2.2 true bt846.1 bt846.2.1 bt846.2.2.1 bt846.2.2.2.1 bt846.2.2.2.2.1 bt846.2.2.2.2.2.1 bt846.2.2.2.2.2.2.1 bt846.2.2.2.2.2.2.2.1 bt846.2.2.2.2.2.2.2.2.1 bt846.2.2.2.2.2.2.2.2.2.1 bt846.2.2.2.2.2.2.2.2.2.2.1 bt846.2.2.2.2.2.2.2.2.2.2.2.1 bt846.2.2.2.2.2.2.2.2.2.2.2.2.1 bt846.2.2.2.2.2.2.2.2.2.2.2.2.2.1 bt846.2.2.2.2.2.2.2.2.2.2.2.2.2.2.1 bt846.2.2.2.2.2.2.2.2.2.2.2.2.2.2.2 bt866.1 bt866.2.1 bt866.2.2.1 bt866.2.2.2.1 bt866.2.2.2.2.1 bt866.2.2.2.2.2.1 bt866.2.2.2.2.2.2.1 bt866.2.2.2.2.2.2.2.1 bt866.2.2.2.2.2.2.2.2.1 bt866.2.2.2.2.2.2.2.2.2.1 bt866.2.2.2.2.2.2.2.2.2.2.1 bt866.2.2.2.2.2.2.2.2.2.2.2.1 bt866.2.2.2.2.2.2.2.2.2.2.2.2.1 bt866.2.2.2.2.2.2.2.2.2.2.2.2.2.1 bt866.2.2.2.2.2.2.2.2.2.2.2.2.2.2.1 bt866.2.2.2.2.2.2.2.2.2.2.2.2.2.2.2.1) else ((impl_LineOk.f k bt932.1 bt932.2.1 bt932.2.2.1 bt932.2.2.2.1 bt932.2.2.2.2.1 bt932.2.2.2.2.2.1 bt932.2.2.2.2.2.2).bind fun t946 => ((spec_LineOk.f k bt932.1 bt932.2.1 bt932.2.2.1 bt932.2.2.2.1 bt932.2.2.2.2.1 bt932.2.2.2.2.2.1 bt932.2.2.2.2.2.2).bind fun t947 => (if (t946 != t947) = true then (laws_FnItems.j0 k t863 bt866.2.2.2.2.2.2.2.2.2.2.2.2.2.2.2.2 true bt846.1 bt846.2.1 bt846.2.2.1 bt846.2.2.2.1 bt846.2.2.2.2.1 bt846.2.2.2.2.2.1 bt846.2.2.2.2.2.2.1 bt846.2.2.2.2.2.2.2.1 bt846.2.2.2.2.2.2.2.2.1 bt846.2.2.2.2.2.2.2.2.2.1 bt846.2.2.2.2.2.2.2.2.2.2.1 bt846.2.2.2.2.2.2.2.2.2.2.2.1 bt846.2.2.2.2.2.2.2.2.2.2.2.2.1 bt846.2.2.2.2.2.2.2.2.2.2.2.2.2.1 bt846.2.2.2.2.2.2.2.2.2.2.2.2.2.2.1 bt846.2.2.2.2.2.2.2.2.2.2.2.2.2.2.2 bt866.1 bt866.2.1 bt866.2.2.1 bt866.2.2.2.1 bt866.2.2.2.2.1 bt866.2.2.2.2.2.1 bt866.2.2.2.2.2.2.1 bt866.2.2.2.2.2.2.2.1 bt866.2.2.2.2.2.2.2.2.1 bt866.2.2.2.2.2.2.2.2.2.1 bt866.2.2.2.2.2.2.2.2.2.2.1 bt866.2.2.2.2.2.2.2.2.2.2.2.1 bt866.2.2.2.2.2.2.2.2.2.2.2.2.1 bt866.2.2.2.2.2.2.2.2.2.2.2.2.2.1 bt866.2.2.2.2.2.2.2.2.2.2.2.2.2.2.1 bt866.2.2.2.2.2.2.2.2.2.2.2.2.2.2.2.1) else ((spec_PutItem.f k bt846.1 bt846.2.1 bt846.2.2.1 bt846.2.2.2.1 bt846.2.2.2.2.1 bt846.2.2.2.2.2.1 bt846.2.2.2.2.2.2.1 bt846.2.2.2.2.2.2.2.1 bt846.2.2.2.2.2.2.2.2.1 bt846.2.2.2.2.2.2.2.2.2.1 bt846.2.2.2.2.2.2.2.2.2.2.1 bt846.2.2.2.2.2.2.2.2.2.2.2.1 bt846.2.2.2.2.2.2.2.2.2.2.2.2.1 bt846.2.2.2.2.2.2.2.2.2.2.2.2.2.1 bt846.2.2.2.2.2.2.2.2.2.2.2.2.2.2.1 bt846.2.2.2.2.2.2.2.2.2.2.2.2.2.2.2).bind fun t948 => ((laws_same.f t863 t948).bind fun t951 => (laws_FnItems.j0 k t863 bt866.2.2.2.2.2.2.2.2.2.2.2.2.2.2.2.2 (!t951) bt846.1 bt846.2.1 bt846.2.2.1 bt846.2.2.2.1 bt846.2.2.2.2.1 bt846.2.2.2.2.2.1 bt846.2.2.2.2.2.2.1 bt846.2.2.2.2.2.2.2.1 bt846.2.2.2.2.2.2.2.2.1 bt846.2.2.2.2.2.2.2.2.2.1 bt846.2.2.2.2.2.2.2.2.2.2.1 bt846.2.2.2.2.2.2.2.2.2.2.2.1 bt846.2.2.2.2.2.2.2.2.2.2.2.2.1 bt846.2.2.2.2.2.2.2.2.2.2.2.2.2.1 bt846.2.2.2.2.2.2.2.2.2.2.2.2.2.2.1 bt846.2.2.2.2.2.2.2.2.2.2.2.2.2.2.2 bt866.1 bt866.2.1 bt866.2.2.1 bt866.2.2.2.1 bt866.2.2.2.2.1 bt866.2.2.2.2.2.1 bt866.2.2.2.2.2.2.1 bt866.2.2.2.2.2.2.2.1 bt866.2.2.2.2.2.2.2.2.1 bt866.2.2.2.2.2.2.2.2.2.1 bt866.2.2.2.2.2.2.2.2.2.2.1 bt866.2.2.2.2.2.2.2.2.2.2.2.1 bt866.2.2.2.2.2.2.2.2.2.2.2.2.1 bt866.2.2.2.2.2.2.2.2.2.2.2.2.2.1 bt866.2.2.2.2.2.2.2.2.2.2.2.2.2.2.1 bt866.2.2.2.2.2.2.2.2.2.2.2.2.2.2.2.1))))))))) else (laws_FnItems.j0 k t863 bt866.2.2.2.2.2.2.2.2.2.2.2.2.2.2.2.2 true bt846.1 bt846.2.1 bt846.2.2.1 bt846.2.2.2.1 bt846.2.2.2.2.1 bt846.2.2.2.2.2.1 bt846.2.2.2.2.2.2.1 bt846.2.2.2.2.2.2.2.1 bt846.2.2.2.2.2.2.2.2.1 bt846.2.2.2.2.2.2.2.2.2.1 bt846.2.2.2.2.2.2.2.2.2.2.1 bt846.2.2.2.2.2.2.2.2.2.2.2.1 bt846.2.2.2.2.2.2.2.2.2.2.2.2.1 bt846.2.2.2.2.2.2.2.2.2.2.2.2.2.1 bt846.2.2.2.2.2.2.2.2.2.2.2.2.2.2.1 bt846.2.2.2.2.2.2.2.2.2.2.2.2.2.2.2 bt866.1 bt866.2.1 bt866.2.2.1 bt866.2.2.2.1 bt866.2.2.2.2.1 bt866.2.2.2.2.2.1 bt866.2.2.2.2.2.2.1 bt866.2.2.2.2.2.2.2.1 bt866.2.2.2.2.2.2.2.2.1 bt866.2.2.2.2.2.2.2.2.2.1 bt866.2.2.2.2.2.2.2.2.2.2.1 bt866.2.2.2.2.2.2.2.2.2.2.2.1 bt866.2.2.2.2.2.2.2.2.2.2.2.2.1 bt866.2.2.2.2.2.2.2.2.2.2.2.2.2.1 bt866.2.2.2.2.2.2.2.2.2.2.2.2.2.2.1 bt866.2.2.2.2.2.2.2.2.2.2.2.2.2.2.2.1)))) else ((impl_AskerOk.f k bt923.1 bt923.2.1 bt923.2.2.1 bt923.2.2.2.1 bt923.2.2.2.2.1 bt923.2.2.2.2.2.1 bt923.2.2.2.2.2.2.1 bt923.2.2.2.2.2.2.2).bind fun t952 => ((spec_AskerOk.f k bt923.1 bt923.2.1 bt923.2.2.1 bt923.2.2.2.1 bt923.2.2.2.2.1 bt923.2.2.2.2.2.1 bt923.2.2.2.2.2.2.1 bt923.2.2.2.2.2.2.2).bind fun t953 => (if (t952 != t953) = true then (laws_FnItems.j0 k t863 bt866.2.2.2.2.2.2.2.2.2.2.2.2.2.2.2.2 true bt846.1 bt846.2.1 bt846.2.2.1 bt846.2.2.2.1 bt846.2.2.2.2.1 bt846.2.2.2.2.2.1 bt846.2.2.2.2.2.2.1 bt846.2.2.2.2.2.2.2.1 bt846.2.2.2.2.2.2.2.2.1 bt846.2.2.2.2.2.2.2.2.2.1 bt846.2.2.2.2.2.2.2.2.2.2.1 bt846.2.2.2.2.2.2.2.2.2.2.2.1 bt846.2.2.2.2.2.2.2.2.2.2.2.2.1 bt846.2.2.2.2.2.2.2.2.2.2.2.2.2.1 bt846.2.2.2.2.2.2.2.2.2.2.2.2.2.2.1 bt846.2.2.2.2.2.2.2.2.2.2.2.2.2.2.2 bt866.1 bt866.2.1 bt866.2.2.1 bt866.2.2.2.1 bt866.2.2.2.2.1 bt866.2.2.2.2.2.1 bt866.2.2.2.2.2.2.1 bt866.2.2.2.2.2.2.2.1 bt866.2.2.2.2.2.2.2.2.1 bt866.2.2.2.2.2.2.2.2.2.1 bt866.2.2.2.2.2.2.2.2.2.2.1 bt866.2.2.2.2.2.2.2.2.2.2.2.1 bt866.2.2.2.2.2.2.2.2.2.2.2.2.1 bt866.2.2.2.2.2.2.2.2.2.2.2.2.2.1 bt866.2.2.2.2.2.2.2.2.2.2.2.2.2.2.1 bt866.2.2.2.2.2.2.2.2.2.2.2.2.2.2.2.1) else ((impl_LineOk.f k bt932.1 bt932.2.1 bt932.2.2.1 bt932.2.2.2.1 bt932.2.2.2.2.1 bt932.2.2.2.2.2.1 bt932.2.2.2.2.2.2).bind fun t954 => ((spec_LineOk.f k bt932.1 bt932.2.1 bt932.2.2.1 bt932.2.2.2.1 bt932.2.2.2.2.1 bt932.2.2.2.2.2.1 bt932.2.2.2.2.2.2).bind fun t955 => (if (t954 != t955) = true then (laws_FnItems.j0 k t863 bt866.2.2.2.2.2.2.2.2.2.2.2.2.2.2.2.2 true bt846.1 bt846.2.1 bt846.2.2.1 bt846.2.2.2.1 bt846.2.2.2.2.1 bt846.2.2.2.2.2.1 bt846.2.2.2.2.2.2.1 bt846.2.2.2.2.2.2.2.1 bt846.2.2.2.2.2.2.2.2.1 bt846.2.2.2.2.2.2.2.2.2.1 bt846.2.2.2.2.2.2.2.2.2.2.1 bt846.2.2.2.2.2.2.2.2.2.2.2.1 bt846.2.2.2.2.2.2.2.2.2.2.2.2.1 bt846.2.2.2.2.2.2.2.2.2.2.2.2.2.1 bt846.2.2.2.2.2.2.2.2.2.2.2.2.2.2.1 bt846.2.2.2.2.2.2.2.2.2.2.2.2.2.2.2 bt866.1 bt866.2.1 bt866.2.2.1 bt866.2.2.2.1 bt866.2.2.2.2.1 bt866.2.2.2.2.2.1 bt866.2.2.2.2.2.2.1 bt866.2.2.2.2.2.2.2.1 bt866.2.2.2.2.2.2.2.2.1 bt866.2.2.2.2.2.2.2.2.2.1 bt866.2.2.2.2.2.2.2.2.2.2.1 bt866.2.2.2.2.2.2.2.2.2.2.2.1 bt866.2.2.2.2.2.2.2.2.2.2.2.2.1 bt866.2.2.2.2.2.2.2.2.2.2.2.2.2.1 bt866.2.2.2.2.2.2.2.2.2.2.2.2.2.2.1 bt866.2.2.2.2.2.2.2.2.2.2.2.2.2.2.2.1) else ((spec_PutItem.f k bt846.1 bt846.2.1 bt846.2.2.1 bt846.2.2.2.1 bt846.2.2.2.2.1 bt846.2.2.2.2.2.1 bt846.2.2.2.2.2.2.1 bt846.2.2.2.2.2.2.2.1 bt846.2.2.2.2.2.2.2.2.1 bt846.2.2.2.2.2.2.2.2.2.1 bt846.2.2.2.2.2.2.2.2.2.2.1 bt846.2.2.2.2.2.2.2.2.2.2.2.1 bt846.2.2.2.2.2.2.2.2.2.2.2.2.1 bt846.2.2.2.2.2.2.2.2.2.2.2.2.2.1 bt846.2.2.2.2.2.2.2.2.2.2.2.2.2.2.1 bt846.2.2.2.2.2.2.2.2.2.2.2.2.2.2.2).bind fun t956 => ((laws_same.f t863 t956).bind fun t959 => (laws_FnItems.j0 k t863 bt866.2.2.2.2.2.2.2.2.2.2.2.2.2.2.2.2 (!t959) bt846.1 bt846.2.1 bt846.2.2.1 bt846.2.2.2.1 bt846.2.2.2.2.1 bt846.2.2.2.2.2.1 bt846.2.2.2.2.2.2.1 bt846.2.2.2.2.2.2.2.1 bt846.2.2.2.2.2.2.2.2.1 bt846.2.2.2.2.2.2.2.2.2.1 bt846.2.2.2.2.2.2.2.2.2.2.1 bt846.2.2.2.2.2.2.2.2.2.2.2.1 bt846.2.2.2.2.2.2.2.2.2.2.2.2.1 bt846.2.2.2.2.2.2.2.2.2.2.2.2.2.1 bt846.2.2.2.2.2.2.2.2.2.2.2.2.2.2.1 bt846.2.2.2.2.2.2.2.2.2.2.2.2.2.2.2 bt866.1 bt866.2.1 bt866.2.2.1 bt866.2.2.2.1 bt866.2.2.2.2.1 bt866.2.2.2.2.2.1 bt866.2.2.2.2.2.2.1 bt866.2.2.2.2.2.2.2.1 bt866.2.2.2.2.2.2.2.2.1 bt866.2.2.2.2.2.2.2.2.2.1 bt866.2.2.2.2.2.2.2.2.2.2.1 bt866.2.2.2.2.2.2.2.2.2.2.2.1 bt866.2.2.2.2.2.2.2.2.2.2.2.2.1 bt866.2.2.2.2.2.2.2.2.2.2.2.2.2.1 bt866.2.2.2.2.2.2.2.2.2.2.2.2.2.2.1 bt866.2.2.2.2.2.2.2.2.2.2.2.2.2.2.2.1))))))))))))))))))))
theorem laws_FnItems.mono_l : ∀ k, (∀ y0 y1 y2 y3 y4 y5 y6 y7 y8 y9 y10 y11 y12 y13 y14 y15 y16 y17 y18 y19 y20 y21 y22 y23 y24 y25 y26 y27 y28 y29 y30 y31 y32 y33 y34, LeO (laws_FnItems.j0 k y0 y1 y2 y3 y4 y5 y6 y7 y8 y9 y10 y11 y12 y13 y14 y15 y16 y17 y18 y19 y20 y21 y22 y23 y24 y25 y26 y27 y28 y29 y30 y31 y32 y33 y34) (laws_FnItems.j0 (k + 1) y0 y1 y2 y3 y4 y5 y6 y7 y8 y9 y10 y11 y12 y13 y14 y15 y16 y17 y18 y19 y20 y21 y22 y23 y24 y25 y26 y27 y28 y29 y30 y31 y32 y33 y34)) ∧ (∀ y0, LeO (laws_FnItems.j1 k y0) (laws_FnItems.j1 (k + 1) y0))
 | 0 => ⟨fun _ _ _ _ _ _ _ _ _ _ _ _ _ _ _ _ _ _ _ _ _ _ _ _ _ _ _ _ _ _ _ _ _ _ _ r h => by simp [laws_FnItems.j0] at h, fun _ r h => by simp [laws_FnItems.j1] at h⟩
 | k + 1 => by
  obtain ⟨ih0, ih1⟩ := laws_FnItems.mono_l k
  refine ⟨?_, ?_⟩
  ·
   intro y0 y1 y2 y3 y4 y5 y6 y7 y8 y9 y10 y11 y12 y13 y14 y15 y16 y17 y18 y19 y20 y21 y22 y23 y24 y25 y26 y27 y28 y29 y30 y31 y32 y33 y34
   unfold laws_FnItems.j0
   repeat' first
   | (with_reducible exact ih0 _ _ _ _ _ _ _ _ _ _ _ _ _ _ _ _ _ _ _ _ _ _ _ _ _ _ _ _ _ _ _ _ _ _ _)
   | (with_reducible exact ih1 _)
   | (with_reducible exact impl_AskerOk.mono _ _ _ _ _ _ _ _ _)
   | (with_reducible exact impl_GetItem.mono _ _)
   | (with_reducible exact impl_LineOk.mono _ _ _ _ _ _ _ _)
   | (with_reducible exact impl_PutItem.mono _ _ _ _ _ _ _ _ _ _ _ _ _ _ _ _ _)
   | (with_reducible exact spec_AskerOk.mono _ _ _ _ _ _ _ _ _)
   | (with_reducible exact spec_DrawAskerOk.mono _ _)
   | (with_reducible exact spec_DrawGetItem.mono _ _)
   | (with_reducible exact spec_DrawLineOk.mono _ _)
   | (with_reducible exact spec_DrawPutItem.mono _ _)
   | (with_reducible exact spec_GetItem.mono _ _)
   | (with_reducible exact spec_LineOk.mono _ _ _ _ _ _ _ _)
   | (with_reducible exact spec_PutItem.mono _ _ _ _ _ _ _ _ _ _ _ _ _ _ _ _ _)
   | (with_reducible exact LeO.refl _)
   | (with_reducible exact LeO.none _)
   | (with_reducible refine LeO.ite ?_ ?_)
   | (with_reducible refine LeO.bind ?_ (fun _ => ?_))
  ·
   intro y0
   unfold laws_FnItems.j1
   repeat' first
   | (with_reducible exact ih0 _ _ _ _ _ _ _ _ _ _ _ _ _ _ _ _ _ _ _ _ _ _ _ _ _ _ _ _ _ _ _ _ _ _ _)
   | (with_reducible exact ih1 _)
   | (with_reducible exact impl_AskerOk.mono _ _ _ _ _ _ _ _ _)
   | (with_reducible exact impl_GetItem.mono _ _)
   | (with_reducible exact impl_LineOk.mono _ _ _ _ _ _ _ _)
   | (with_reducible exact impl_PutItem.mono _ _ _ _ _ _ _ _ _ _ _ _ _ _ _ _ _)
   | (with_reducible exact spec_AskerOk.mono _ _ _ _ _ _ _ _ _)
   | (with_reducible exact spec_DrawAskerOk.mono _ _)
   | (with_reducible exact spec_DrawGetItem.mono _ _)
   | (with_reducible exact spec_DrawLineOk.mono _ _)
   | (with_reducible exact spec_DrawPutItem.mono _ _)
   | (with_reducible exact spec_GetItem.mono _ _)
   | (with_reducible exact spec_LineOk.mono _ _ _ _ _ _ _ _)
   | (with_reducible exact spec_PutItem.mono _ _ _ _ _ _ _ _ _ _ _ _ _ _ _ _ _)
   | (with_reducible exact LeO.refl _)
   | (with_reducible exact LeO.none _)
   | (with_reducible refine LeO.ite ?_ ?_)
   | (with_reducible refine LeO.bind ?_ (fun _ => ?_))
theorem laws_FnItems.mono : ∀ a0 k, LeO (laws_FnItems.f k a0) (laws_FnItems.f (k + 1) a0) := by
 intro a0 k
 obtain ⟨ih0, ih1⟩ := laws_FnItems.mono_l k
 unfold laws_FnItems.f
 repeat' first
   | (with_reducible exact ih0 _ _ _ _ _ _ _ _ _ _ _ _ _ _ _ _ _ _ _ _ _ _ _ _ _ _ _ _ _ _ _ _ _ _ _)
   | (with_reducible exact ih1 _)
   | (with_reducible exact impl_AskerOk.mono _ _ _ _ _ _ _ _ _)
   | (with_reducible exact impl_GetItem.mono _ _)
   | (with_reducible exact impl_LineOk.mono _ _ _ _ _ _ _ _)
   | (with_reducible exact impl_PutItem.mono _ _ _ _ _ _ _ _ _ _ _ _ _ _ _ _ _)
   | (with_reducible exact spec_AskerOk.mono _ _ _ _ _ _ _ _ _)
   | (with_reducible exact spec_DrawAskerOk.mono _ _)
   | (with_reducible exact spec_DrawGetItem.mono _ _)
   | (with_reducible exact spec_DrawLineOk.mono _ _)
   | (with_reducible exact spec_DrawPutItem.mono _ _)
   | (with_reducible exact spec_GetItem.mono _ _)
   | (with_reducible exact spec_LineOk.mono _ _ _ _ _ _ _ _)
   | (with_reducible exact spec_PutItem.mono _ _ _ _ _ _ _ _ _ _ _ _ _ _ _ _ _)
   | (with_reducible exact LeO.refl _)
   | (with_reducible exact LeO.none _)
   | (with_reducible refine LeO.ite ?_ ?_)
   | (with_reducible refine LeO.bind ?_ (fun _ => ?_))
def laws_FnItems.T11 : Bool × List (List Nat × List Nat) := (true, [([], []), ([], []), ([0, 1], [0, 1]), ([2], [2]), ([3], [3]), ([4, 3, 3], [3, 4]), ([5], [5]), ([6, 5, 5], [5, 6]), ([5], [5]), ([7, 8, 7, 5], [5, 7, 8]), ([9, 5], [5, 9]), ([5, 10, 3], [3, 5, 10]), ([3, 11], [3, 11]), ([12, 9], [12]), ([13], [13]), ([14, 13, 13], [13, 14]), ([13], [13]), ([16, 15, 13], [13, 16]), ([15, 17, 13], [13, 15, 17]), ([13, 18], [13, 18]), ([19, 17], [19]), ([20], [20]), ([21, 20, 20], [20, 21]), ([20], [20]), ([23, 22, 20], [20, 23]), ([22, 24, 20], [20, 22, 24]), ([20, 25], [20, 25]), ([26, 24], [26]), ([27], [27]), ([27], [27]), ([29, 27, 27], [27, 29]), ([28, 30, 30, 27], [27, 28, 30]), ([31, 27], [27, 31]), ([27, 32], [27, 32])])
def laws_FnItems.B11 : List Nat := [0, 0, 3, 7, 15, 31, 63, 127, 63, 511, 1023, 2047, 4095, 8191, 16383, 32767, 16383, 131071, 262143, 524287, 1048575, 2097151, 4194303, 2097151, 16777215, 33554431, 67108863, 134217727, 268435455, 268435455, 805306367, 2147483647, 4294967295, 8589934591]
theorem laws_FnItems.tab11 : rtab .any (opsOf Try.f3 11) = laws_FnItems.T11 := by kernel_rfl
theorem laws_FnItems.bits11 : waitsOk laws_FnItems.T11.2 laws_FnItems.B11 = true := by kernel_rfl
set_option maxHeartbeats 8000000 in
set_option maxRecDepth 100000 in
theorem laws_FnItems.calls (k : Nat) (A0 : Option Addr) (c0 : Nat) (l0 : List Int) (r : Bool) (w : World) (hr0 : Kd.C (Kd.int .u8) w A0 l0.length l0) (hc0 : l0.length ≤ c0) (hr_ : Aside0 (r = true)) (h : laws_FnItems.f k l0 = some r) :
  Calls Try.prog 3 #[.slice A0 l0.length c0] w fun e w' => e = .returned (.bool r) ∧ Below w.heap.size w w' := by
 have hu29 := Try.underlying29
 have hu25 := Try.underlying25
 have hu27 := Try.underlying27
 have HR0 := Aside0.mk hr0
 have HC0 := Aside0.mk hc0
 clear hr0 hc0
 have HB := Aside0.mk (Below.refl w.heap.size w)
 have H := h
 unfold laws_FnItems.f at H
 clear h
 replace H := bd_ H
 obtain ⟨t845, A2, H⟩ := H
 have HC3 := Aside0.mk H
 clear H
 go_enter Try.func3, Try.ntmps3
 go_upto_if 15 with (first | ((with_reducible refine gate_ld rfl ?_); first | refine ld_ ?_ | fail) | ((with_reducible refine gate_callee (f := 7) rfl ?_); refine goesL_ (some 15) rfl rfl Try.func7 (by kernel_rfl) rfl #[.slice A0 l0.length c0] rfl la_ ?_; (with_reducible refine (laws_big.calls _ _ l0 t845 _ ?side1 ?side2 A2.out).mono ?_); (case side1 => exact qC (HR0.out)); (case side2 => exact HC0.out); rintro e w' ⟨rfl, ⟨nd, rfl⟩⟩; refine ⟨_, rfl, ?_⟩))
 (try simp only [Act.put, List.setIfInBounds_toArray, List.set_cons_zero, List.set_cons_succ])
 have H := HC3.out
 clear HC3
 by_cases c4 : t845 = true
 ·
  subst c4
  rw [if_pos rfl] at H
  obtain rfl := Option.some.inj H
  go_wp2_with ((with_reducible refine gate_ld rfl ?_); first | refine ld_ ?_ | fail)
  go_ret
  exact ⟨er_, qB HB⟩
 replace c4 := Bool.eq_false_iff.mpr c4
 subst c4
 rw [if_neg (show ¬ (false = true) by decide)] at H
 replace H := bf_ H
 obtain ⟨f_, hf_, ⟨t846, t847, t848, t849, t850, t851, t852, t853, t854, t855, t856, t857, t858, t859, t860, t861⟩, A5, H⟩ := H
 subst hf_
 (try dsimp only at H)
 replace H := bd_ H
 obtain ⟨t863, A6, H⟩ := H
 replace H := bf_ H
 obtain ⟨f_, hf_, ⟨t866, t867, t868, t869, t870, t871, t872, t873, t874, t875, t876, t877, t878, t879, t880, t881, t882⟩, A7, H⟩ := H
 subst hf_
 (try dsimp only at H)
 replace H := bd_ H
 obtain ⟨t884, A8, H⟩ := H
 replace H := bf_ H
 obtain ⟨f_, hf_, ⟨t887, t888, t889, t890, t891, t892, t893, t894, t895, t896, t897, t898, t899, t900, t901, t902, t903⟩, A9, H⟩ := H
 subst hf_
 (try dsimp only at H)
 replace H := bf_ H
 obtain ⟨f_, hf_, ⟨t905, t906, t907, t908, t909, t910, t911, t912, t913, t914, t915, t916, t917, t918, t919, t920, t921⟩, A10, H⟩ := H
 subst hf_
 (try dsimp only at H)
 replace H := bf_ H
 obtain ⟨f_, hf_, ⟨t923, t924, t925, t926, t927, t928, t929, t930⟩, A11, H⟩ := H
 subst hf_
 (try dsimp only at H)
 replace H := bf_ H
 obtain ⟨f_, hf_, ⟨t932, t933, t934, t935, t936, t937, t938⟩, A12, H⟩ := H
 subst hf_
 (try dsimp only at H)
 have HC13 := Aside0.mk H
 clear H
 go_upto_region 11 with (first | ((with_reducible refine gate_ld rfl ?_); first | refine ld_ ?_ | fail) | ((with_reducible refine gate_callee (f := 8) rfl ?_); refine goesL_ (some 17) rfl rfl Try.func8 (by kernel_rfl) rfl #[.slice A0 l0.length c0] rfl la_ ?_; (with_reducible refine (spec_DrawPutItem.calls k _ _ l0 t846 t847 t848 t849 t850 t851 t852 t853 t854 t855 t856 t857 t858 t859 t860 t861 _ ?side1 ?side2 A5.out).mono ?_); (case side1 => exact qC (Kd.C_below HR0.out HB.out)); (case side2 => exact HC0.out); rintro e w14 ⟨rfl, hb⟩; refine ⟨_, rfl, ?_⟩; replace HB := bS_ HB hb; (try clear hb)) | ((with_reducible refine gate_dst (N := 3) rfl ?_); (try (refine gate_guard (by rfl) ?_; dsimp only)); refine box_event ?hg (N := 3) ?hd (cs := #[.int .i64 0, .int .i64 0, .string (⟨#[]⟩ : ByteArray), .int .i64 0, .int .i64 0, .int .i64 0, .string (⟨#[]⟩ : ByteArray), .int .i64 0, .int .i64 0, .int .i64 0, .string (⟨#[]⟩ : ByteArray), .int .i64 0, .int .i64 0, .int .i64 0, .int .i64 0, .int .i64 0]) (t := 29) ?hr ?_; (case hd => rfl); (case hg => rfl); (case hr => first | (go_simp; done) | (go_simp; rfl) | ((try (obtain ⟨_, _, rfl⟩ := Kd.R_slice HO865.out)); (try (obtain ⟨_, _, rfl⟩ := Kd.R_slice HO886.out)); first | (go_simp; done) | (go_simp; rfl))); intro gb862 hg w15 hbox hb; have BK862 := am_ (hbox); have GW862 := gA_ hg HB; have GE862 := GW862; have IGE862 := gI_ GE862; replace HB := bS_ HB hb; clear hb hbox hg; (try clear zK862); have zK862 := cz16 BK862.out; (try clear fK862); have fK862 := fz16 BK862.out) | ((with_reducible refine gate_store (t := 29) (p := 3) rfl ?_); refine store_evs (t := 29) (p := 3) (j := 0) (cs := [.int .i64 t846, .int .i64 t847, .string t848, .int .i64 t849, .int .i64 t850, .int .i64 t851, .string t852, .int .i64 t853, .int .i64 t854, .int .i64 t855, .string t856, .int .i64 t857, .int .i64 t858, .int .i64 t859, .int .i64 t860, .int .i64 t861]) (qK BK862) ?_; intro w17 hw; replace HB := sB_ hw HB; replace BK862 := sW_ hw BK862; clear hw; (try clear zK862); have zK862 := cz16 BK862.out; (try clear fK862); have fK862 := fz16 BK862.out) | ((with_reducible refine gate_callee (f := 9) rfl ?_); refine goesL_ (some 19) rfl rfl Try.func9 (by kernel_rfl) rfl #[.agg #[.int .i64 t846, .int .i64 t847, .string t848, .int .i64 t849, .int .i64 t850, .int .i64 t851, .string t852, .int .i64 t853, .int .i64 t854, .int .i64 t855, .string t856, .int .i64 t857, .int .i64 t858, .int .i64 t859, .int .i64 t860, .int .i64 t861]] rfl la_ ?_; (with_reducible refine (impl_PutItem.calls k t846 t847 t848 t849 t850 t851 t852 t853 t854 t855 t856 t857 t858 t859 t860 t861 t863 _ A6.out).mono ?_); rintro e w19 ⟨v864, rfl, ho0, hb⟩; refine ⟨_, rfl, ?_⟩; have HO865 := am_ (Kd.R_lower ho0 (below_size (qB HB))); replace BK862 := bK_ BK862 hb; replace HB := bS_ HB hb; (try clear hb); (try clear ho0); obtain ⟨Ao20, co20, eo20⟩ := Kd.R_slice HO865.out; subst eo20) | ((with_reducible refine gate_callee (f := 10) rfl ?_); refine goesL_ (some 22) rfl rfl Try.func10 (by kernel_rfl) rfl #[.slice Ao20 t863.length co20] rfl la_ ?_; (with_reducible refine (impl_GetItem.calls k _ _ t863 t866 t867 t868 t869 t870 t871 t872 t873 t874 t875 t876 t877 t878 t879 t880 t881 t882 _ ?side1 ?side2 A7.out).mono ?_); (case side1 => exact qC ((Kd.R_reads' HO865.out).2.2)); (case side2 => exact (Kd.R_reads' HO865.out).2.1); rintro e w21 ⟨rfl, hb⟩; refine ⟨_, rfl, ?_⟩; replace HO865 := rB_ HO865 hb; replace BK862 := bK_ BK862 hb; replace HB := bS_ HB hb; (try clear hb)) | ((with_reducible refine gate_dst (N := 5) rfl ?_); (try (refine gate_guard (by rfl) ?_; dsimp only)); refine box_event ?hg (N := 5) ?hd (cs := #[.int .i64 0, .int .i64 0, .string (⟨#[]⟩ : ByteArray), .int .i64 0, .int .i64 0, .int .i64 0, .string (⟨#[]⟩ : ByteArray), .int .i64 0, .int .i64 0, .int .i64 0, .string (⟨#[]⟩ : ByteArray), .int .i64 0, .int .i64 0, .int .i64 0, .int .i64 0, .int .i64 0]) (t := 29) ?hr ?_; (case hd => rfl); (case hg => rfl); (case hr => first | (go_simp; done) | (go_simp; rfl) | ((try (obtain ⟨_, _, rfl⟩ := Kd.R_slice HO865.out)); (try (obtain ⟨_, _, rfl⟩ := Kd.R_slice HO886.out)); first | (go_simp; done) | (go_simp; rfl))); intro gb883 hg w22 hbox hb; replace HO865 := rB_ HO865 hb; have BK883 := am_ (hbox); have GW883 := gA_ hg HB; have GE883 := GW883; have IGE883 := gI_ GE883; replace HB := bS_ HB hb; have NB862_883 := am_ ((gN_ hg (qK BK862))); have NB883_862 := am_ ((gM_ hg (qK BK862))); replace BK862 := bK_ BK862 hb; clear hb hbox hg; have hnb23 := NB883_862.out; have hnc23 := NB862_883.out; (try clear zK883); have zK883 := cz16 BK883.out; (try clear fK883); have fK883 := fz16 BK883.out) | ((with_reducible refine gate_store (t := 29) (p := 5) rfl ?_); refine store_evs (t := 29) (p := 5) (j := 0) (cs := [.int .i64 t866, .int .i64 t867, .string t868, .int .i64 t869, .int .i64 t870, .int .i64 t871, .string t872, .int .i64 t873, .int .i64 t874, .int .i64 t875, .string t876, .int .i64 t877, .int .i64 t878, .int .i64 t879, .int .i64 t880, .int .i64 t881]) (qK BK883) ?_; intro w25 hw; have n0_ : Aside0 (Kd.R (Kd.int .u8) 5 w25 w.heap.size (fun _ => True) (.slice Ao20 t863.length co20) t863) := ⟨(by rw [hw]; exact (by (with_reducible repeat (first | apply Kd.R_alloc | apply Kd.R_drewN | apply Kd.R_drew)); exact Kd.R_mono (sR_ (g := gb883) (Kd.R_types HO865.out BK883.out (by decide)) (fun _ hk => hk.2)) (fun _ hk => trivial)))⟩; replace BK862 := sK_ hw BK862 NB862_883; replace HB := sB_ hw HB; replace BK883 := sW_ hw BK883; clear hw; clear HO865; have HO865 := n0_; clear n0_) | ((with_reducible refine gate_callee (f := 11) rfl ?_); refine goesL_ (some 26) rfl rfl Try.func11 (by kernel_rfl) rfl #[.slice A0 l0.length c0] rfl la_ ?_; (with_reducible refine (spec_DrawGetItem.calls k _ _ l0 t884 _ ?side1 ?side2 A8.out).mono ?_); (case side1 => exact qC (Kd.C_below HR0.out HB.out)); (case side2 => exact HC0.out); rintro e w26 ⟨v885, rfl, ho0, hb⟩; refine ⟨_, rfl, ?_⟩; have HO886 := am_ (Kd.R_lower (Kd.R_new' ho0 (Kd.R_lt (qR HO865))) (below_size (qB HB))); replace HO865 := eA_ HO865 ho0 hb; replace BK862 := bK_ BK862 hb; replace BK883 := bK_ BK883 hb; replace HB := bS_ HB hb; (try clear hb); (try clear ho0); obtain ⟨Ao27, co27, eo27⟩ := Kd.R_slice HO886.out; subst eo27) | ((with_reducible refine gate_callee (f := 10) rfl ?_); refine goesL_ (some 29) rfl rfl Try.func10 (by kernel_rfl) rfl #[.slice Ao27 t884.length co27] rfl la_ ?_; (with_reducible refine (impl_GetItem.calls k _ _ t884 t887 t888 t889 t890 t891 t892 t893 t894 t895 t896 t897 t898 t899 t900 t901 t902 t903 _ ?side1 ?side2 A9.out).mono ?_); (case side1 => exact qC ((Kd.R_reads' HO886.out).2.2)); (case side2 => exact (Kd.R_reads' HO886.out).2.1); rintro e w28 ⟨rfl, hb⟩; refine ⟨_, rfl, ?_⟩; replace HO865 := rB_ HO865 hb; replace HO886 := rB_ HO886 hb; replace BK862 := bK_ BK862 hb; replace BK883 := bK_ BK883 hb; replace HB := bS_ HB hb; (try clear hb)) | ((with_reducible refine gate_dst (N := 8) rfl ?_); (try (refine gate_guard (by rfl) ?_; dsimp only)); refine box_event ?hg (N := 8) ?hd (cs := #[.int .i64 0, .int .i64 0, .string (⟨#[]⟩ : ByteArray), .int .i64 0, .int .i64 0, .int .i64 0, .string (⟨#[]⟩ : ByteArray), .int .i64 0, .int .i64 0, .int .i64 0, .string (⟨#[]⟩ : ByteArray), .int .i64 0, .int .i64 0, .int .i64 0, .int .i64 0, .int .i64 0]) (t := 29) ?hr ?_; (case hd => rfl); (case hg => rfl); (case hr => first | (go_simp; done) | (go_simp; rfl) | ((try (obtain ⟨_, _, rfl⟩ := Kd.R_slice HO865.out)); (try (obtain ⟨_, _, rfl⟩ := Kd.R_slice HO886.out)); first | (go_simp; done) | (go_simp; rfl))); intro gb904 hg w29 hbox hb; replace HO865 := rB_ HO865 hb; replace HO886 := rB_ HO886 hb; have BK904 := am_ (hbox); have GW904 := gA_ hg HB; have GE904 := GW904; have IGE904 := gI_ GE904; replace HB := bS_ HB hb; have NB862_904 := am_ ((gN_ hg (qK BK862))); have NB904_862 := am_ ((gM_ hg (qK BK862))); replace BK862 := bK_ BK862 hb; have NB883_904 := am_ ((gN_ hg (qK BK883))); have NB904_883 := am_ ((gM_ hg (qK BK883))); replace BK883 := bK_ BK883 hb; clear hb hbox hg; have hnb30 := NB904_862.out; have hnc30 := NB862_904.out; have hnb31 := NB904_883.out; have hnc31 := NB883_904.out; (try clear zK904); have zK904 := cz16 BK904.out; (try clear fK904); have fK904 := fz16 BK904.out) | ((with_reducible refine gate_store (t := 29) (p := 8) rfl ?_); refine store_evs (t := 29) (p := 8) (j := 0) (cs := [.int .i64 t887, .int .i64 t888, .string t889, .int .i64 t890, .int .i64 t891, .int .i64 t892, .string t893, .int .i64 t894, .int .i64 t895, .int .i64 t896, .string t897, .int .i64 t898, .int .i64 t899, .int .i64 t900, .int .i64 t901, .int .i64 t902]) (qK BK904) ?_; intro w33 hw; have n0_ : Aside0 (Kd.R (Kd.int .u8) 5 w33 w.heap.size (fun k_ => some k_ ≠ (.slice Ao27 t884.length co27 : Value).ownBlock) (.slice Ao20 t863.length co20) t863) := ⟨(by rw [hw]; exact (by (with_reducible repeat (first | apply Kd.R_alloc | apply Kd.R_drewN | apply Kd.R_drew)); exact Kd.R_mono (sR_ (g := gb904) (Kd.R_types HO865.out BK904.out (by decide)) (fun _ hk => hk.2)) (fun _ hk => hk.1.2)))⟩; have n1_ : Aside0 (Kd.R (Kd.int .u8) 5 w33 w.heap.size (fun k_ => some k_ ≠ (.slice Ao20 t863.length co20 : Value).ownBlock) (.slice Ao27 t884.length co27) t884) := ⟨(by rw [hw]; exact (by (with_reducible repeat (first | apply Kd.R_alloc | apply Kd.R_drewN | apply Kd.R_drew)); exact Kd.R_mono (sR_ (g := gb904) (Kd.R_types HO886.out BK904.out (by decide)) (fun _ hk => hk.2)) (fun _ hk => hk.1.2)))⟩; replace BK862 := sK_ hw BK862 NB862_904; replace BK883 := sK_ hw BK883 NB883_904; replace HB := sB_ hw HB; replace BK904 := sW_ hw BK904; clear hw; clear HO865 HO886; have HO865 := n0_; have HO886 := n1_; clear n0_ n1_) | ((with_reducible refine gate_callee (f := 12) rfl ?_); refine goesL_ (some 34) rfl rfl Try.func12 (by kernel_rfl) rfl #[.slice Ao27 t884.length co27] rfl la_ ?_; (with_reducible refine (spec_GetItem.calls k _ _ t884 t905 t906 t907 t908 t909 t910 t911 t912 t913 t914 t915 t916 t917 t918 t919 t920 t921 _ ?side1 ?side2 A10.out).mono ?_); (case side1 => exact qC ((Kd.R_reads' HO886.out).2.2)); (case side2 => exact (Kd.R_reads' HO886.out).2.1); rintro e w34 ⟨rfl, hb⟩; refine ⟨_, rfl, ?_⟩; replace HO865 := rB_ HO865 hb; replace HO886 := rB_ HO886 hb; replace BK862 := bK_ BK862 hb; replace BK883 := bK_ BK883 hb; replace BK904 := bK_ BK904 hb; replace HB := bS_ HB hb; (try clear hb)) | ((with_reducible refine gate_dst (N := 10) rfl ?_); (try (refine gate_guard (by rfl) ?_; dsimp only)); refine box_event ?hg (N := 10) ?hd (cs := #[.int .i64 0, .int .i64 0, .string (⟨#[]⟩ : ByteArray), .int .i64 0, .int .i64 0, .int .i64 0, .string (⟨#[]⟩ : ByteArray), .int .i64 0, .int .i64 0, .int .i64 0, .string (⟨#[]⟩ : ByteArray), .int .i64 0, .int .i64 0, .int .i64 0, .int .i64 0, .int .i64 0]) (t := 29) ?hr ?_; (case hd => rfl); (case hg => rfl); (case hr => first | (go_simp; done) | (go_simp; rfl) | ((try (obtain ⟨_, _, rfl⟩ := Kd.R_slice HO865.out)); (try (obtain ⟨_, _, rfl⟩ := Kd.R_slice HO886.out)); first | (go_simp; done) | (go_simp; rfl))); intro gb922 hg w35 hbox hb; replace HO865 := rB_ HO865 hb; replace HO886 := rB_ HO886 hb; have BK922 := am_ (hbox); have GW922 := gA_ hg HB; have GE922 := GW922; have IGE922 := gI_ GE922; replace HB := bS_ HB hb; have NB862_922 := am_ ((gN_ hg (qK BK862))); have NB922_862 := am_ ((gM_ hg (qK BK862))); replace BK862 := bK_ BK862 hb; have NB883_922 := am_ ((gN_ hg (qK BK883))); have NB922_883 := am_ ((gM_ hg (qK BK883))); replace BK883 := bK_ BK883 hb; have NB904_922 := am_ ((gN_ hg (qK BK904))); have NB922_904 := am_ ((gM_ hg (qK BK904))); replace BK904 := bK_ BK904 hb; clear hb hbox hg; have hnb36 := NB922_862.out; have hnc36 := NB862_922.out; have hnb37 := NB922_883.out; have hnc37 := NB883_922.out; have hnb38 := NB922_904.out; have hnc38 := NB904_922.out; (try clear zK922); have zK922 := cz16 BK922.out; (try clear fK922); have fK922 := fz16 BK922.out) | ((with_reducible refine gate_store (t := 29) (p := 10) rfl ?_); refine store_evs (t := 29) (p := 10) (j := 0) (cs := [.int .i64 t905, .int .i64 t906, .string t907, .int .i64 t908, .int .i64 t909, .int .i64 t910, .string t911, .int .i64 t912, .int .i64 t913, .int .i64 t914, .string t915, .int .i64 t916, .int .i64 t917, .int .i64 t918, .int .i64 t919, .int .i64 t920]) (qK BK922) ?_; intro w40 hw; have n0_ : Aside0 (Kd.R (Kd.int .u8) 5 w40 w.heap.size (fun k_ => some k_ ≠ (.slice Ao27 t884.length co27 : Value).ownBlock) (.slice Ao20 t863.length co20) t863) := ⟨(by rw [hw]; exact (by (with_reducible repeat (first | apply Kd.R_alloc | apply Kd.R_drewN | apply Kd.R_drew)); exact Kd.R_mono (sR_ (g := gb922) (Kd.R_types HO865.out BK922.out (by decide)) (fun _ hk => hk.2)) (fun _ hk => hk.1)))⟩; have n1_ : Aside0 (Kd.R (Kd.int .u8) 5 w40 w.heap.size (fun k_ => some k_ ≠ (.slice Ao20 t863.length co20 : Value).ownBlock) (.slice Ao27 t884.length co27) t884) := ⟨(by rw [hw]; exact (by (with_reducible repeat (first | apply Kd.R_alloc | apply Kd.R_drewN | apply Kd.R_drew)); exact Kd.R_mono (sR_ (g := gb922) (Kd.R_types HO886.out BK922.out (by decide)) (fun _ hk => hk.2)) (fun _ hk => hk.1)))⟩; replace BK862 := sK_ hw BK862 NB862_922; replace BK883 := sK_ hw BK883 NB883_922; replace BK904 := sK_ hw BK904 NB904_922; replace HB := sB_ hw HB; replace BK922 := sW_ hw BK922; clear hw; clear HO865 HO886; have HO865 := n0_; have HO886 := n1_; clear n0_ n1_) | ((with_reducible refine gate_callee (f := 13) rfl ?_); refine goesL_ (some 38) rfl rfl Try.func13 (by kernel_rfl) rfl #[.slice A0 l0.length c0] rfl la_ ?_; (with_reducible refine (spec_DrawAskerOk.calls k _ _ l0 t923 t924 t925 t926 t927 t928 t929 t930 _ ?side1 ?side2 A11.out).mono ?_); (case side1 => exact qC (Kd.C_below HR0.out HB.out)); (case side2 => exact HC0.out); rintro e w41 ⟨rfl, hb⟩; refine ⟨_, rfl, ?_⟩; replace HO865 := rB_ HO865 hb; replace HO886 := rB_ HO886 hb; replace BK862 := bK_ BK862 hb; replace BK883 := bK_ BK883 hb; replace BK904 := bK_ BK904 hb; replace BK922 := bK_ BK922 hb; replace HB := bS_ HB hb; (try clear hb)) | ((with_reducible refine gate_dst (N := 12) rfl ?_); (try (refine gate_guard (by rfl) ?_; dsimp only)); refine box_event ?hg (N := 12) ?hd (cs := #[.int .i64 0, .string (⟨#[]⟩ : ByteArray), .int .i64 0, .int .i64 0, .int .i64 0, .string (⟨#[]⟩ : ByteArray), .int .i64 0, .int .i64 0]) (t := 25) ?hr ?_; (case hd => rfl); (case hg => rfl); (case hr => first | (go_simp; done) | (go_simp; rfl) | ((try (obtain ⟨_, _, rfl⟩ := Kd.R_slice HO865.out)); (try (obtain ⟨_, _, rfl⟩ := Kd.R_slice HO886.out)); first | (go_simp; done) | (go_simp; rfl))); intro gb931 hg w42 hbox hb; replace HO865 := rB_ HO865 hb; replace HO886 := rB_ HO886 hb; have BK931 := am_ (hbox); have GW931 := gA_ hg HB; have GE931 := GW931; have IGE931 := gI_ GE931; replace HB := bS_ HB hb; have NB862_931 := am_ ((gN_ hg (qK BK862))); have NB931_862 := am_ ((gM_ hg (qK BK862))); replace BK862 := bK_ BK862 hb; have NB883_931 := am_ ((gN_ hg (qK BK883))); have NB931_883 := am_ ((gM_ hg (qK BK883))); replace BK883 := bK_ BK883 hb; have NB904_931 := am_ ((gN_ hg (qK BK904))); have NB931_904 := am_ ((gM_ hg (qK BK904))); replace BK904 := bK_ BK904 hb; have NB922_931 := am_ ((gN_ hg (qK BK922))); have NB931_922 := am_ ((gM_ hg (qK BK922))); replace BK922 := bK_ BK922 hb; clear hb hbox hg; have hnb43 := NB931_862.out; have hnc43 := NB862_931.out; have hnb44 := NB931_883.out; have hnc44 := NB883_931.out; have hnb45 := NB931_904.out; have hnc45 := NB904_931.out; have hnb46 := NB931_922.out; have hnc46 := NB922_931.out; (try clear zK931); have zK931 := cz8 BK931.out; (try clear fK931); have fK931 := fz8 BK931.out) | ((with_reducible refine gate_store (t := 25) (p := 12) rfl ?_); refine store_evs (t := 25) (p := 12) (j := 0) (cs := [.int .i64 t923, .string t924, .int .i64 t925, .int .i64 t926, .int .i64 t927, .string t928, .int .i64 t929, .int .i64 t930]) (qK BK931) ?_; intro w48 hw; have n0_ : Aside0 (Kd.R (Kd.int .u8) 5 w48 w.heap.size (fun k_ => some k_ ≠ (.slice Ao27 t884.length co27 : Value).ownBlock) (.slice Ao20 t863.length co20) t863) := ⟨(by rw [hw]; exact (by (with_reducible repeat (first | apply Kd.R_alloc | apply Kd.R_drewN | apply Kd.R_drew)); exact Kd.R_mono (sR_ (g := gb931) (Kd.R_types HO865.out BK931.out (by decide)) (fun _ hk => hk.2)) (fun _ hk => hk.1)))⟩; have n1_ : Aside0 (Kd.R (Kd.int .u8) 5 w48 w.heap.size (fun k_ => some k_ ≠ (.slice Ao20 t863.length co20 : Value).ownBlock) (.slice Ao27 t884.length co27) t884) := ⟨(by rw [hw]; exact (by (with_reducible repeat (first | apply Kd.R_alloc | apply Kd.R_drewN | apply Kd.R_drew)); exact Kd.R_mono (sR_ (g := gb931) (Kd.R_types HO886.out BK931.out (by decide)) (fun _ hk => hk.2)) (fun _ hk => hk.1)))⟩; replace BK862 := sK_ hw BK862 NB862_931; replace BK883 := sK_ hw BK883 NB883_931; replace BK904 := sK_ hw BK904 NB904_931; replace BK922 := sK_ hw BK922 NB922_931; replace HB := sB_ hw HB; replace BK931 := sW_ hw BK931; clear hw; clear HO865 HO886; have HO865 := n0_; have HO886 := n1_; clear n0_ n1_) | ((with_reducible refine gate_callee (f := 14) rfl ?_); refine goesL_ (some 40) rfl rfl Try.func14 (by kernel_rfl) rfl #[.slice A0 l0.length c0] rfl la_ ?_; (with_reducible refine (spec_DrawLineOk.calls k _ _ l0 t932 t933 t934 t935 t936 t937 t938 _ ?side1 ?side2 A12.out).mono ?_); (case side1 => exact qC (Kd.C_below HR0.out HB.out)); (case side2 => exact HC0.out); rintro e w49 ⟨rfl, hb⟩; refine ⟨_, rfl, ?_⟩; replace HO865 := rB_ HO865 hb; replace HO886 := rB_ HO886 hb; replace BK862 := bK_ BK862 hb; replace BK883 := bK_ BK883 hb; replace BK904 := bK_ BK904 hb; replace BK922 := bK_ BK922 hb; replace BK931 := bK_ BK931 hb; replace HB := bS_ HB hb; (try clear hb)) | ((with_reducible refine gate_dst (N := 13) rfl ?_); (try (refine gate_guard (by rfl) ?_; dsimp only)); refine box_event ?hg (N := 13) ?hd (cs := #[.int .i64 0, .string (⟨#[]⟩ : ByteArray), .int .i64 0, .int .i64 0, .int .i64 0, .int .i64 0, .int .i64 0]) (t := 27) ?hr ?_; (case hd => rfl); (case hg => rfl); (case hr => first | (go_simp; done) | (go_simp; rfl) | ((try (obtain ⟨_, _, rfl⟩ := Kd.R_slice HO865.out)); (try (obtain ⟨_, _, rfl⟩ := Kd.R_slice HO886.out)); first | (go_simp; done) | (go_simp; rfl))); intro gb939 hg w50 hbox hb; replace HO865 := rB_ HO865 hb; replace HO886 := rB_ HO886 hb; have BK939 := am_ (hbox); have GW939 := gA_ hg HB; have GE939 := GW939; have IGE939 := gI_ GE939; replace HB := bS_ HB hb; have NB862_939 := am_ ((gN_ hg (qK BK862))); have NB939_862 := am_ ((gM_ hg (qK BK862))); replace BK862 := bK_ BK862 hb; have NB883_939 := am_ ((gN_ hg (qK BK883))); have NB939_883 := am_ ((gM_ hg (qK BK883))); replace BK883 := bK_ BK883 hb; have NB904_939 := am_ ((gN_ hg (qK BK904))); have NB939_904 := am_ ((gM_ hg (qK BK904))); replace BK904 := bK_ BK904 hb; have NB922_939 := am_ ((gN_ hg (qK BK922))); have NB939_922 := am_ ((gM_ hg (qK BK922))); replace BK922 := bK_ BK922 hb; have NB931_939 := am_ ((gN_ hg (qK BK931))); have NB939_931 := am_ ((gM_ hg (qK BK931))); replace BK931 := bK_ BK931 hb; clear hb hbox hg; have hnb51 := NB939_862.out; have hnc51 := NB862_939.out; have hnb52 := NB939_883.out; have hnc52 := NB883_939.out; have hnb53 := NB939_904.out; have hnc53 := NB904_939.out; have hnb54 := NB939_922.out; have hnc54 := NB922_939.out; have hnb55 := NB939_931.out; have hnc55 := NB931_939.out; (try clear zK939); have zK939 := cz7 BK939.out; (try clear fK939); have fK939 := fz7 BK939.out) | ((with_reducible refine gate_store (t := 27) (p := 13) rfl ?_); refine store_evs (t := 27) (p := 13) (j := 0) (cs := [.int .i64 t932, .string t933, .int .i64 t934, .int .i64 t935, .int .i64 t936, .int .i64 t937, .int .i64 t938]) (qK BK939) ?_; intro w57 hw; have n0_ : Aside0 (Kd.R (Kd.int .u8) 5 w57 w.heap.size (fun k_ => some k_ ≠ (.slice Ao27 t884.length co27 : Value).ownBlock) (.slice Ao20 t863.length co20) t863) := ⟨(by rw [hw]; exact (by (with_reducible repeat (first | apply Kd.R_alloc | apply Kd.R_drewN | apply Kd.R_drew)); exact Kd.R_mono (sR_ (g := gb939) (Kd.R_types HO865.out BK939.out (by decide)) (fun _ hk => hk.2)) (fun _ hk => hk.1)))⟩; have n1_ : Aside0 (Kd.R (Kd.int .u8) 5 w57 w.heap.size (fun k_ => some k_ ≠ (.slice Ao20 t863.length co20 : Value).ownBlock) (.slice Ao27 t884.length co27) t884) := ⟨(by rw [hw]; exact (by (with_reducible repeat (first | apply Kd.R_alloc | apply Kd.R_drewN | apply Kd.R_drew)); exact Kd.R_mono (sR_ (g := gb939) (Kd.R_types HO886.out BK939.out (by decide)) (fun _ hk => hk.2)) (fun _ hk => hk.1)))⟩; replace BK862 := sK_ hw BK862 NB862_939; replace BK883 := sK_ hw BK883 NB883_939; replace BK904 := sK_ hw BK904 NB904_939; replace BK922 := sK_ hw BK922 NB922_939; replace BK931 := sK_ hw BK931 NB931_939; replace HB := sB_ hw HB; replace BK939 := sW_ hw BK939; clear hw; clear HO865 HO886; have HO865 := n0_; have HO886 := n1_; clear n0_ n1_))
 (try simp only [Act.put, List.setIfInBounds_toArray, List.set_cons_zero, List.set_cons_succ])
 go_cut [74] (fun v74 wc => ∃ (kq : Nat) (x74_12 : Bool), v74 = .bool x74_12 ∧ Aside0 (laws_FnItems.j0 kq t863 t882 x74_12 t846 t847 t848 t849 t850 t851 t852 t853 t854 t855 t856 t857 t858 t859 t860 t861 t866 t867 t868 t869 t870 t871 t872 t873 t874 t875 t876 t877 t878 t879 t880 t881 = some r) ∧ Aside0 (kq ≤ k) ∧ Aside0 (Kd.R (Kd.int .u8) 5 wc w.heap.size (fun _ => True) (.slice Ao20 t863.length co20) t863) ∧ Aside0 (wc.heap[gb862]? = some (.cells #[.int .i64 t846, .int .i64 t847, .string t848, .int .i64 t849, .int .i64 t850, .int .i64 t851, .string t852, .int .i64 t853, .int .i64 t854, .int .i64 t855, .string t856, .int .i64 t857, .int .i64 t858, .int .i64 t859, .int .i64 t860, .int .i64 t861] 29 (0, 0))) ∧ Aside0 (wc.heap[gb883]? = some (.cells #[.int .i64 t866, .int .i64 t867, .string t868, .int .i64 t869, .int .i64 t870, .int .i64 t871, .string t872, .int .i64 t873, .int .i64 t874, .int .i64 t875, .string t876, .int .i64 t877, .int .i64 t878, .int .i64 t879, .int .i64 t880, .int .i64 t881] 29 (0, 0))) ∧ Aside0 (wc.heap[gb904]? = some (.cells #[.int .i64 t887, .int .i64 t888, .string t889, .int .i64 t890, .int .i64 t891, .int .i64 t892, .string t893, .int .i64 t894, .int .i64 t895, .int .i64 t896, .string t897, .int .i64 t898, .int .i64 t899, .int .i64 t900, .int .i64 t901, .int .i64 t902] 29 (0, 0))) ∧ Aside0 (wc.heap[gb922]? = some (.cells #[.int .i64 t905, .int .i64 t906, .string t907, .int .i64 t908, .int .i64 t909, .int .i64 t910, .string t911, .int .i64 t912, .int .i64 t913, .int .i64 t914, .string t915, .int .i64 t916, .int .i64 t917, .int .i64 t918, .int .i64 t919, .int .i64 t920] 29 (0, 0))) ∧ Aside0 (wc.heap[gb931]? = some (.cells #[.int .i64 t923, .string t924, .int .i64 t925, .int .i64 t926, .int .i64 t927, .string t928, .int .i64 t929, .int .i64 t930] 25 (0, 0))) ∧ Aside0 (wc.heap[gb939]? = some (.cells #[.int .i64 t932, .string t933, .int .i64 t934, .int .i64 t935, .int .i64 t936, .int .i64 t937, .int .i64 t938] 27 (0, 0))) ∧ Aside0 (Below w.heap.size w wc))
 case first =>
  have H := HC13.out
  clear HC13
  by_cases c58 : (t903 != t921) = true
  ·
   rw [if_pos c58] at H
   have c58b0 : (t903 != t921) = true := c58
   (try (have c58b1 : decide (t903 = t921) = false := by simpa using c58))
   (try (have c58b2 : (t903 == t921) = false := by simpa using c58))
   (try (have c58b3 : ¬ (t903 = t921) := by simpa using c58))
   clear c58
   (first | rw [c58b0] | rw [c58b1] | rw [c58b2] | rw [c58b3] | (simp only [i64_w, i32_w]; rw [c58b0]) | skip)
   have H' := Aside0.mk H
   clear H
   try go_wp2_with ((with_reducible refine gate_ld rfl ?_); first | refine ld_ ?_ | fail)
   replace HO865 := am_ (Kd.R_drew HO865.out)
   replace HO886 := am_ (Kd.R_drew HO886.out)
   replace BK862 := am_ (blk_drew BK862.out)
   replace BK883 := am_ (blk_drew BK883.out)
   replace BK904 := am_ (blk_drew BK904.out)
   replace BK922 := am_ (blk_drew BK922.out)
   replace BK931 := am_ (blk_drew BK931.out)
   replace BK939 := am_ (blk_drew BK939.out)
   replace HB := am_ (below_drew1 HB.out)
   refine start_ (n := 34) (S := fun w' => True) (ds := []) (rl [0,34]) (by kernel_rfl) rfl rfl trivial (fun hHeld => ?_); refine with_tabW laws_FnItems.tab11 laws_FnItems.bits11 (fun HT_ HW_ => ?_)
   generalize w57.drew = w59 at HO865 HO886 BK862 BK883 BK904 BK922 BK931 BK939 HB hHeld ⊢
   refine pz_ (i := 0) (N := some 41) HT_ (rl [1,33]) rfl rfl ?_
   refine pz_ (i := 1) (N := some 42) HT_ (rl [2,32]) rfl rfl ?_
   refine pz_ (i := 2) (N := some 43) HT_ (rl [3,31]) rfl rfl ?_
   refine pz_ (i := 3) (N := some 44) HT_ (rl [4,30]) rfl rfl ?_
   refine pu_ (i := 4) (N := some 45) HT_ (rl [5,29]) rfl rfl ?_
   refine pu_ (i := 5) (N := some 46) HT_ (rl [6,28]) rfl rfl ?_
   refine pu_ (i := 6) (N := some 47) HT_ (rl [7,27]) rfl rfl ?_
   refine pu_ (i := 7) (N := some 48) HT_ (rl [8,26]) rfl rfl ?_
   refine pu_ (i := 8) (N := some 49) HT_ (rl [9,25]) rfl rfl ?_
   refine pu_ (i := 9) (N := some 50) HT_ (rl [10,24]) rfl rfl ?_
   refine pu_ (i := 10) (N := some 51) HT_ (rl [11,23]) rfl rfl ?_
   refine pu_ (i := 11) (N := some 52) HT_ (rl [12,22]) rfl rfl ?_
   refine pz_ (i := 12) (N := some 53) HT_ (rl [13,21]) rfl rfl ?_
   refine pz_ (i := 13) (N := some 54) HT_ (rl [14,20]) rfl rfl ?_
   refine pu_ (i := 14) (N := some 55) HT_ (rl [15,19]) rfl rfl ?_
   refine pu_ (i := 15) (N := some 56) HT_ (rl [16,18]) rfl rfl ?_
   refine pu_ (i := 16) (N := some 57) HT_ (rl [17,17]) rfl rfl ?_
   refine pu_ (i := 17) (N := some 58) HT_ (rl [18,16]) rfl rfl ?_
   refine pu_ (i := 18) (N := some 59) HT_ (rl [19,15]) rfl rfl ?_
   refine pz_ (i := 19) (N := some 60) HT_ (rl [20,14]) rfl rfl ?_
   refine pz_ (i := 20) (N := some 61) HT_ (rl [21,13]) rfl rfl ?_
   refine pu_ (i := 21) (N := some 62) HT_ (rl [22,12]) rfl rfl ?_
   refine pu_ (i := 22) (N := some 63) HT_ (rl [23,11]) rfl rfl ?_
   refine pu_ (i := 23) (N := some 64) HT_ (rl [24,10]) rfl rfl ?_
   refine pu_ (i := 24) (N := some 65) HT_ (rl [25,9]) rfl rfl ?_
   refine pu_ (i := 25) (N := some 66) HT_ (rl [26,8]) rfl rfl ?_
   refine pz_ (i := 26) (N := some 67) HT_ (rl [27,7]) rfl rfl ?_
   refine pz_ (i := 27) (N := some 68) HT_ (rl [28,6]) rfl rfl ?_
   refine pu_ (i := 28) (N := some 69) HT_ (rl [29,5]) rfl rfl ?_
   refine pu_ (i := 29) (N := some 70) HT_ (rl [30,4]) rfl rfl ?_
   refine pu_ (i := 30) (N := some 71) HT_ (rl [31,3]) rfl rfl ?_
   refine pu_ (i := 31) (N := some 72) HT_ (rl [32,2]) rfl rfl ?_
   refine pu_ (i := 32) (N := some 73) HT_ (rl [33,1]) rfl rfl ?_
   refine pz_ (i := 33) (N := some 74) HT_ (rl [34]) rfl rfl ?_
   refine done_ (done_of HT_.out (by kernel_rfl)) ?_
   try go_wp2_with ((with_reducible refine gate_ld rfl ?_); first | refine ld_ ?_ | fail)
   go_meet
   case rel => exact ⟨_, (true), eqq_, H', ⟨by first | omega | exact Nat.le_refl _⟩, ⟨by (with_reducible repeat (first | apply Kd.R_alloc | apply Kd.R_drewN | apply Kd.R_drew)); exact Kd.R_mono HO865.out (fun _ hk => trivial)⟩, ⟨qK BK862⟩, ⟨qK BK883⟩, ⟨qK BK904⟩, ⟨qK BK922⟩, ⟨qK BK931⟩, ⟨qK BK939⟩, ⟨qB HB⟩⟩
  rw [if_neg c58] at H
  have c58b0 : (t903 != t921) = false := by simpa using c58
  (try (have c58b1 : decide (t903 = t921) = true := by simpa using c58))
  (try (have c58b2 : (t903 == t921) = true := by simpa using c58))
  clear c58
  (first | rw [c58b0] | rw [c58b1] | rw [c58b2] | (simp only [i64_w, i32_w]; rw [c58b0]) | skip)
  by_cases c60 : t903 = true
  rotate_left
  ·
   replace c60 := Bool.eq_false_iff.mpr c60
   subst c60
   rw [if_neg (show ¬ (false = true) by decide)] at H
   replace H := bd_ H
   obtain ⟨t952, A96, H⟩ := H
   replace H := bd_ H
   obtain ⟨t953, A97, H⟩ := H
   by_cases c98 : (t952 != t953) = true
   ·
    rw [if_pos c98] at H
    have c98b0 : (t952 != t953) = true := c98
    (try (have c98b1 : decide (t952 = t953) = false := by simpa using c98))
    (try (have c98b2 : (t952 == t953) = false := by simpa using c98))
    (try (have c98b3 : ¬ (t952 = t953) := by simpa using c98))
    clear c98
    have H' := Aside0.mk H
    clear H
    try go_wp2_with ((with_reducible refine gate_ld rfl ?_); first | refine ld_ ?_ | fail)
    replace HO865 := am_ (Kd.R_drew HO865.out)
    replace HO886 := am_ (Kd.R_drew HO886.out)
    replace BK862 := am_ (blk_drew BK862.out)
    replace BK883 := am_ (blk_drew BK883.out)
    replace BK904 := am_ (blk_drew BK904.out)
    replace BK922 := am_ (blk_drew BK922.out)
    replace BK931 := am_ (blk_drew BK931.out)
    replace BK939 := am_ (blk_drew BK939.out)
    replace HB := am_ (below_drew1 HB.out)
    refine start_ (n := 34) (S := fun w' => w'.cell? ⟨gb931, 0, none⟩ = some (.int .i64 t923) ∧ w'.cell? ⟨gb931, 1, none⟩ = some (.string t924) ∧ w'.cell? ⟨gb931, 2, none⟩ = some (.int .i64 t925) ∧ w'.cell? ⟨gb931, 3, none⟩ = some (.int .i64 t926) ∧ w'.cell? ⟨gb931, 4, none⟩ = some (.int .i64 t927) ∧ w'.cell? ⟨gb931, 5, none⟩ = some (.string t928) ∧ w'.cell? ⟨gb931, 6, none⟩ = some (.int .i64 t929) ∧ w'.cell? ⟨gb931, 7, none⟩ = some (.int .i64 t930)) (ds := []) (rl [0,34]) (by kernel_rfl) rfl rfl (cz8 BK931.out) (fun hHeld => ?_); refine with_tabW laws_FnItems.tab11 laws_FnItems.bits11 (fun HT_ HW_ => ?_)
    generalize w57.drew = w99 at HO865 HO886 BK862 BK883 BK904 BK922 BK931 BK939 HB hHeld ⊢
    refine pz_ (i := 0) (N := some 41) HT_ (rl [1,33]) rfl rfl ?_
    refine pz_ (i := 1) (N := some 42) HT_ (rl [2,32]) rfl rfl ?_
    refine pz_ (i := 2) (N := some 43) HT_ (rl [3,31]) rfl rfl ?_
    refine pz_ (i := 3) (N := some 44) HT_ (rl [4,30]) rfl rfl ?_
    refine pz_ (i := 4) (N := some 45) HT_ (rl [5,29]) rfl rfl ?_
    refine pz_ (i := 5) (N := some 46) HT_ (rl [6,28]) rfl rfl ?_
    refine pu_ (i := 6) (N := some 47) HT_ (rl [7,27]) rfl rfl ?_
    refine pu_ (i := 7) (N := some 48) HT_ (rl [8,26]) rfl rfl ?_
    refine pu_ (i := 8) (N := some 49) HT_ (rl [9,25]) rfl rfl ?_
    refine pu_ (i := 9) (N := some 50) HT_ (rl [10,24]) rfl rfl ?_
    refine pu_ (i := 10) (N := some 51) HT_ (rl [11,23]) rfl rfl ?_
    refine pz_ (i := 11) (N := some 52) HT_ (rl [12,22]) rfl rfl ?_
    refine pz_ (i := 12) (N := some 53) HT_ (rl [13,21]) rfl rfl ?_
    refine pz_ (i := 13) (N := some 54) HT_ (rl [14,20]) rfl rfl ?_
    refine tz_ (i := 14) (N := some 55) HT_ HW_ (rl [15,19]) rfl rfl hHeld ?_ (hy := fun w' ⟨s0, s1, s2, s3, s4, s5, s6, s7⟩ => ldr8 s0 s1 s2 s3 s4 s5 s6 s7)
    refine tz_ (i := 16) (N := some 57) HT_ HW_ (rl [15,1,1,17]) rfl rfl hHeld ?_ (hy := fun w' ⟨s0, s1, s2, s3, s4, s5, s6, s7⟩ => ldr8 s0 s1 s2 s3 s4 s5 s6 s7)
    refine one_ (i := 15) (N := some 56) (rl [17,17]) rfl rfl (one_of HT_.out (by kernel_rfl)) (by decide) (fun K hK => ?_)
    refine goes_ Try.func16 (by kernel_rfl) rfl #[.agg #[.int .i64 t923, .string t924, .int .i64 t925, .int .i64 t926, .int .i64 t927, .string t928, .int .i64 t929, .int .i64 t930]] (by rfl) rfl rfl la_ ?_
    with_reducible refine (impl_AskerOk.calls k t923 t924 t925 t926 t927 t928 t929 t930 t952 _ A96.out).mono ?_
    rintro e w100 ⟨rfl, hb⟩
    refine ⟨_, rfl, ?_⟩
    replace HO865 := rB_ HO865 hb
    replace HO886 := rB_ HO886 hb
    replace BK862 := bK_ BK862 hb
    replace BK883 := bK_ BK883 hb
    replace BK904 := bK_ BK904 hb
    replace BK922 := bK_ BK922 hb
    replace BK931 := bK_ BK931 hb
    replace BK939 := bK_ BK939 hb
    replace HB := bS_ HB hb
    (try clear hb)
    refine hK.out _ _ (cz8 BK931.out) (fun hHeld => ?_)
    clear hK K
    refine norm_ (a' := ?_) ?_ ?_
    rotate_left
    ·
     show Act.put _ (some 56) _ = _
     exact ap_
    refine one_ (i := 17) (N := some 58) (rl [18,16]) rfl rfl (one_of HT_.out (by kernel_rfl)) (by decide) (fun K hK => ?_)
    refine goes_ Try.func17 (by kernel_rfl) rfl #[.agg #[.int .i64 t923, .string t924, .int .i64 t925, .int .i64 t926, .int .i64 t927, .string t928, .int .i64 t929, .int .i64 t930]] (by rfl) rfl rfl la_ ?_
    with_reducible refine (spec_AskerOk.calls k t923 t924 t925 t926 t927 t928 t929 t930 t953 _ A97.out).mono ?_
    rintro e w101 ⟨rfl, hb⟩
    refine ⟨_, rfl, ?_⟩
    replace HO865 := rB_ HO865 hb
    replace HO886 := rB_ HO886 hb
    replace BK862 := bK_ BK862 hb
    replace BK883 := bK_ BK883 hb
    replace BK904 := bK_ BK904 hb
    replace BK922 := bK_ BK922 hb
    replace BK931 := bK_ BK931 hb
    replace BK939 := bK_ BK939 hb
    replace HB := bS_ HB hb
    (try clear hb)
    refine hK.out _ _ (cz8 BK931.out) (fun hHeld => ?_)
    clear hK K
    refine norm_ (a' := ?_) ?_ ?_
    rotate_left
    ·
     show Act.put _ (some 58) _ = _
     exact ap_
    refine pz_ (i := 18) (N := some 59) HT_ (rl [19,15]) rfl rfl ?_
    refine pz_ (i := 19) (N := some 60) HT_ (rl [20,14]) rfl rfl ?_
    refine pz_ (i := 20) (N := some 61) HT_ (rl [21,13]) rfl rfl ?_
    refine pu_ (i := 21) (N := some 62) HT_ (rl [22,12]) rfl rfl ?_
    refine pu_ (i := 22) (N := some 63) HT_ (rl [23,11]) rfl rfl ?_
    refine pu_ (i := 23) (N := some 64) HT_ (rl [24,10]) rfl rfl ?_
    refine pu_ (i := 24) (N := some 65) HT_ (rl [25,9]) rfl rfl ?_
    refine pu_ (i := 25) (N := some 66) HT_ (rl [26,8]) rfl rfl ?_
    refine pz_ (i := 26) (N := some 67) HT_ (rl [27,7]) rfl rfl ?_
    refine pz_ (i := 27) (N := some 68) HT_ (rl [28,6]) rfl rfl ?_
    refine pu_ (i := 28) (N := some 69) HT_ (rl [29,5]) rfl rfl ?_
    refine pu_ (i := 29) (N := some 70) HT_ (rl [30,4]) rfl rfl ?_
    refine pu_ (i := 30) (N := some 71) HT_ (rl [31,3]) rfl rfl ?_
    refine pu_ (i := 31) (N := some 72) HT_ (rl [32,2]) rfl rfl ?_
    refine pu_ (i := 32) (N := some 73) HT_ (rl [33,1]) rfl rfl ?_
    refine pz_ (i := 33) (N := some 74) HT_ (rl [34]) rfl rfl ?_
    refine done_ (done_of HT_.out (by kernel_rfl)) ?_
    try go_wp2_with ((with_reducible refine gate_ld rfl ?_); first | refine ld_ ?_ | fail)
    go_meet
    case rel => exact ⟨_, (true), eqq_, H', ⟨by first | omega | exact Nat.le_refl _⟩, ⟨by (with_reducible repeat (first | apply Kd.R_alloc | apply Kd.R_drewN | apply Kd.R_drew)); exact Kd.R_mono HO865.out (fun _ hk => trivial)⟩, ⟨qK BK862⟩, ⟨qK BK883⟩, ⟨qK BK904⟩, ⟨qK BK922⟩, ⟨qK BK931⟩, ⟨qK BK939⟩, ⟨qB HB⟩⟩
   rw [if_neg c98] at H
   have c98b0 : (t952 != t953) = false := by simpa using c98
   (try (have c98b1 : decide (t952 = t953) = true := by simpa using c98))
   (try (have c98b2 : (t952 == t953) = true := by simpa using c98))
   clear c98
   replace H := bd_ H
   obtain ⟨t954, A102, H⟩ := H
   replace H := bd_ H
   obtain ⟨t955, A103, H⟩ := H
   by_cases c104 : (t954 != t955) = true
   ·
    rw [if_pos c104] at H
    have c104b0 : (t954 != t955) = true := c104
    (try (have c104b1 : decide (t954 = t955) = false := by simpa using c104))
    (try (have c104b2 : (t954 == t955) = false := by simpa using c104))
    (try (have c104b3 : ¬ (t954 = t955) := by simpa using c104))
    clear c104
    have H' := Aside0.mk H
    clear H
    try go_wp2_with ((with_reducible refine gate_ld rfl ?_); first | refine ld_ ?_ | fail)
    replace HO865 := am_ (Kd.R_drew HO865.out)
    replace HO886 := am_ (Kd.R_drew HO886.out)
    replace BK862 := am_ (blk_drew BK862.out)
    replace BK883 := am_ (blk_drew BK883.out)
    replace BK904 := am_ (blk_drew BK904.out)
    replace BK922 := am_ (blk_drew BK922.out)
    replace BK931 := am_ (blk_drew BK931.out)
    replace BK939 := am_ (blk_drew BK939.out)
    replace HB := am_ (below_drew1 HB.out)
    refine start_ (n := 34) (S := fun w' => w'.cell? ⟨gb931, 0, none⟩ = some (.int .i64 t923) ∧ w'.cell? ⟨gb931, 1, none⟩ = some (.string t924) ∧ w'.cell? ⟨gb931, 2, none⟩ = some (.int .i64 t925) ∧ w'.cell? ⟨gb931, 3, none⟩ = some (.int .i64 t926) ∧ w'.cell? ⟨gb931, 4, none⟩ = some (.int .i64 t927) ∧ w'.cell? ⟨gb931, 5, none⟩ = some (.string t928) ∧ w'.cell? ⟨gb931, 6, none⟩ = some (.int .i64 t929) ∧ w'.cell? ⟨gb931, 7, none⟩ = some (.int .i64 t930) ∧ w'.cell? ⟨gb939, 0, none⟩ = some (.int .i64 t932) ∧ w'.cell? ⟨gb939, 1, none⟩ = some (.string t933) ∧ w'.cell? ⟨gb939, 2, none⟩ = some (.int .i64 t934) ∧ w'.cell? ⟨gb939, 3, none⟩ = some (.int .i64 t935) ∧ w'.cell? ⟨gb939, 4, none⟩ = some (.int .i64 t936) ∧ w'.cell? ⟨gb939, 5, none⟩ = some (.int .i64 t937) ∧ w'.cell? ⟨gb939, 6, none⟩ = some (.int .i64 t938)) (ds := []) (rl [0,34]) (by kernel_rfl) rfl rfl (cw8 BK931.out (cz7 BK939.out)) (fun hHeld => ?_); refine with_tabW laws_FnItems.tab11 laws_FnItems.bits11 (fun HT_ HW_ => ?_)
    generalize w57.drew = w105 at HO865 HO886 BK862 BK883 BK904 BK922 BK931 BK939 HB hHeld ⊢
    refine pz_ (i := 0) (N := some 41) HT_ (rl [1,33]) rfl rfl ?_
    refine pz_ (i := 1) (N := some 42) HT_ (rl [2,32]) rfl rfl ?_
    refine pz_ (i := 2) (N := some 43) HT_ (rl [3,31]) rfl rfl ?_
    refine pz_ (i := 3) (N := some 44) HT_ (rl [4,30]) rfl rfl ?_
    refine pz_ (i := 4) (N := some 45) HT_ (rl [5,29]) rfl rfl ?_
    refine pz_ (i := 5) (N := some 46) HT_ (rl [6,28]) rfl rfl ?_
    refine pu_ (i := 6) (N := some 47) HT_ (rl [7,27]) rfl rfl ?_
    refine pu_ (i := 7) (N := some 48) HT_ (rl [8,26]) rfl rfl ?_
    refine pu_ (i := 8) (N := some 49) HT_ (rl [9,25]) rfl rfl ?_
    refine pu_ (i := 9) (N := some 50) HT_ (rl [10,24]) rfl rfl ?_
    refine pu_ (i := 10) (N := some 51) HT_ (rl [11,23]) rfl rfl ?_
    refine pz_ (i := 11) (N := some 52) HT_ (rl [12,22]) rfl rfl ?_
    refine pz_ (i := 12) (N := some 53) HT_ (rl [13,21]) rfl rfl ?_
    refine pz_ (i := 13) (N := some 54) HT_ (rl [14,20]) rfl rfl ?_
    refine tz_ (i := 14) (N := some 55) HT_ HW_ (rl [15,19]) rfl rfl hHeld ?_ (hy := fun w' ⟨s0, s1, s2, s3, s4, s5, s6, s7, _, _, _, _, _, _, _⟩ => ldr8 s0 s1 s2 s3 s4 s5 s6 s7)
    refine tz_ (i := 16) (N := some 57) HT_ HW_ (rl [15,1,1,17]) rfl rfl hHeld ?_ (hy := fun w' ⟨s0, s1, s2, s3, s4, s5, s6, s7, _, _, _, _, _, _, _⟩ => ldr8 s0 s1 s2 s3 s4 s5 s6 s7)
    refine one_ (i := 15) (N := some 56) (rl [17,17]) rfl rfl (one_of HT_.out (by kernel_rfl)) (by decide) (fun K hK => ?_)
    refine goes_ Try.func16 (by kernel_rfl) rfl #[.agg #[.int .i64 t923, .string t924, .int .i64 t925, .int .i64 t926, .int .i64 t927, .string t928, .int .i64 t929, .int .i64 t930]] (by rfl) rfl rfl la_ ?_
    with_reducible refine (impl_AskerOk.calls k t923 t924 t925 t926 t927 t928 t929 t930 t952 _ A96.out).mono ?_
    rintro e w106 ⟨rfl, hb⟩
    refine ⟨_, rfl, ?_⟩
    replace HO865 := rB_ HO865 hb
    replace HO886 := rB_ HO886 hb
    replace BK862 := bK_ BK862 hb
    replace BK883 := bK_ BK883 hb
    replace BK904 := bK_ BK904 hb
    replace BK922 := bK_ BK922 hb
    replace BK931 := bK_ BK931 hb
    replace BK939 := bK_ BK939 hb
    replace HB := bS_ HB hb
    (try clear hb)
    refine hK.out _ _ (cw8 BK931.out (cz7 BK939.out)) (fun hHeld => ?_)
    clear hK K
    refine norm_ (a' := ?_) ?_ ?_
    rotate_left
    ·
     show Act.put _ (some 56) _ = _
     exact ap_
    refine one_ (i := 17) (N := some 58) (rl [18,16]) rfl rfl (one_of HT_.out (by kernel_rfl)) (by decide) (fun K hK => ?_)
    refine goes_ Try.func17 (by kernel_rfl) rfl #[.agg #[.int .i64 t923, .string t924, .int .i64 t925, .int .i64 t926, .int .i64 t927, .string t928, .int .i64 t929, .int .i64 t930]] (by rfl) rfl rfl la_ ?_
    with_reducible refine (spec_AskerOk.calls k t923 t924 t925 t926 t927 t928 t929 t930 t953 _ A97.out).mono ?_
    rintro e w107 ⟨rfl, hb⟩
    refine ⟨_, rfl, ?_⟩
    replace HO865 := rB_ HO865 hb
    replace HO886 := rB_ HO886 hb
    replace BK862 := bK_ BK862 hb
    replace BK883 := bK_ BK883 hb
    replace BK904 := bK_ BK904 hb
    replace BK922 := bK_ BK922 hb
    replace BK931 := bK_ BK931 hb
    replace BK939 := bK_ BK939 hb
    replace HB := bS_ HB hb
    (try clear hb)
    refine hK.out _ _ (cw8 BK931.out (cz7 BK939.out)) (fun hHeld => ?_)
    clear hK K
    refine norm_ (a' := ?_) ?_ ?_
    rotate_left
    ·
     show Act.put _ (some 58) _ = _
     exact ap_
    refine pz_ (i := 18) (N := some 59) HT_ (rl [19,15]) rfl rfl ?_
    refine pz_ (i := 19) (N := some 60) HT_ (rl [20,14]) rfl rfl ?_
    refine pz_ (i := 20) (N := some 61) HT_ (rl [21,13]) rfl rfl ?_
    refine tz_ (i := 21) (N := some 62) HT_ HW_ (rl [22,12]) rfl rfl hHeld ?_ (hy := fun w' ⟨_, _, _, _, _, _, _, _, s8, s9, s10, s11, s12, s13, s14⟩ => ldr7 s8 s9 s10 s11 s12 s13 s14)
    refine tz_ (i := 23) (N := some 64) HT_ HW_ (rl [22,1,1,10]) rfl rfl hHeld ?_ (hy := fun w' ⟨_, _, _, _, _, _, _, _, s8, s9, s10, s11, s12, s13, s14⟩ => ldr7 s8 s9 s10 s11 s12 s13 s14)
    refine one_ (i := 22) (N := some 63) (rl [24,10]) rfl rfl (one_of HT_.out (by kernel_rfl)) (by decide) (fun K hK => ?_)
    refine goes_ Try.func18 (by kernel_rfl) rfl #[.agg #[.int .i64 t932, .string t933, .int .i64 t934, .int .i64 t935, .int .i64 t936, .int .i64 t937, .int .i64 t938]] (by rfl) rfl rfl la_ ?_
    with_reducible refine (impl_LineOk.calls k t932 t933 t934 t935 t936 t937 t938 t954 _ A102.out).mono ?_
    rintro e w108 ⟨rfl, hb⟩
    refine ⟨_, rfl, ?_⟩
    replace HO865 := rB_ HO865 hb
    replace HO886 := rB_ HO886 hb
    replace BK862 := bK_ BK862 hb
    replace BK883 := bK_ BK883 hb
    replace BK904 := bK_ BK904 hb
    replace BK922 := bK_ BK922 hb
    replace BK931 := bK_ BK931 hb
    replace BK939 := bK_ BK939 hb
    replace HB := bS_ HB hb
    (try clear hb)
    refine hK.out _ _ (cw8 BK931.out (cz7 BK939.out)) (fun hHeld => ?_)
    clear hK K
    refine norm_ (a' := ?_) ?_ ?_
    rotate_left
    ·
     show Act.put _ (some 63) _ = _
     exact ap_
    refine one_ (i := 24) (N := some 65) (rl [25,9]) rfl rfl (one_of HT_.out (by kernel_rfl)) (by decide) (fun K hK => ?_)
    refine goes_ Try.func19 (by kernel_rfl) rfl #[.agg #[.int .i64 t932, .string t933, .int .i64 t934, .int .i64 t935, .int .i64 t936, .int .i64 t937, .int .i64 t938]] (by rfl) rfl rfl la_ ?_
    with_reducible refine (spec_LineOk.calls k t932 t933 t934 t935 t936 t937 t938 t955 _ A103.out).mono ?_
    rintro e w109 ⟨rfl, hb⟩
    refine ⟨_, rfl, ?_⟩
    replace HO865 := rB_ HO865 hb
    replace HO886 := rB_ HO886 hb
    replace BK862 := bK_ BK862 hb
    replace BK883 := bK_ BK883 hb
    replace BK904 := bK_ BK904 hb
    replace BK922 := bK_ BK922 hb
    replace BK931 := bK_ BK931 hb
    replace BK939 := bK_ BK939 hb
    replace HB := bS_ HB hb
    (try clear hb)
    refine hK.out _ _ (cw8 BK931.out (cz7 BK939.out)) (fun hHeld => ?_)
    clear hK K
    refine norm_ (a' := ?_) ?_ ?_
    rotate_left
    ·
     show Act.put _ (some 65) _ = _
     exact ap_
    refine pz_ (i := 25) (N := some 66) HT_ (rl [26,8]) rfl rfl ?_
    refine pz_ (i := 26) (N := some 67) HT_ (rl [27,7]) rfl rfl ?_
    refine pz_ (i := 27) (N := some 68) HT_ (rl [28,6]) rfl rfl ?_
    refine pu_ (i := 28) (N := some 69) HT_ (rl [29,5]) rfl rfl ?_
    refine pu_ (i := 29) (N := some 70) HT_ (rl [30,4]) rfl rfl ?_
    refine pu_ (i := 30) (N := some 71) HT_ (rl [31,3]) rfl rfl ?_
    refine pu_ (i := 31) (N := some 72) HT_ (rl [32,2]) rfl rfl ?_
    refine pu_ (i := 32) (N := some 73) HT_ (rl [33,1]) rfl rfl ?_
    refine pz_ (i := 33) (N := some 74) HT_ (rl [34]) rfl rfl ?_
    refine done_ (done_of HT_.out (by kernel_rfl)) ?_
    try go_wp2_with ((with_reducible refine gate_ld rfl ?_); first | refine ld_ ?_ | fail)
    go_meet
    case rel => exact ⟨_, (true), eqq_, H', ⟨by first | omega | exact Nat.le_refl _⟩, ⟨by (with_reducible repeat (first | apply Kd.R_alloc | apply Kd.R_drewN | apply Kd.R_drew)); exact Kd.R_mono HO865.out (fun _ hk => trivial)⟩, ⟨qK BK862⟩, ⟨qK BK883⟩, ⟨qK BK904⟩, ⟨qK BK922⟩, ⟨qK BK931⟩, ⟨qK BK939⟩, ⟨qB HB⟩⟩
   rw [if_neg c104] at H
   have c104b0 : (t954 != t955) = false := by simpa using c104
   (try (have c104b1 : decide (t954 = t955) = true := by simpa using c104))
   (try (have c104b2 : (t954 == t955) = true := by simpa using c104))
   clear c104
   replace H := bd_ H
   obtain ⟨t956, A110, H⟩ := H
   replace H := bd_ H
   obtain ⟨t959, A111, H⟩ := H
   have H' := Aside0.mk H
   clear H
   try go_wp2_with ((with_reducible refine gate_ld rfl ?_); first | refine ld_ ?_ | fail)
   replace HO865 := am_ (Kd.R_drew HO865.out)
   replace HO886 := am_ (Kd.R_drew HO886.out)
   replace BK862 := am_ (blk_drew BK862.out)
   replace BK883 := am_ (blk_drew BK883.out)
   replace BK904 := am_ (blk_drew BK904.out)
   replace BK922 := am_ (blk_drew BK922.out)
   replace BK931 := am_ (blk_drew BK931.out)
   replace BK939 := am_ (blk_drew BK939.out)
   replace HB := am_ (below_drew1 HB.out)
   refine start_ (n := 34) (S := fun w' => w'.cell? ⟨gb931, 0, none⟩ = some (.int .i64 t923) ∧ w'.cell? ⟨gb931, 1, none⟩ = some (.string t924) ∧ w'.cell? ⟨gb931, 2, none⟩ = some (.int .i64 t925) ∧ w'.cell? ⟨gb931, 3, none⟩ = some (.int .i64 t926) ∧ w'.cell? ⟨gb931, 4, none⟩ = some (.int .i64 t927) ∧ w'.cell? ⟨gb931, 5, none⟩ = some (.string t928) ∧ w'.cell? ⟨gb931, 6, none⟩ = some (.int .i64 t929) ∧ w'.cell? ⟨gb931, 7, none⟩ = some (.int .i64 t930) ∧ w'.cell? ⟨gb939, 0, none⟩ = some (.int .i64 t932) ∧ w'.cell? ⟨gb939, 1, none⟩ = some (.string t933) ∧ w'.cell? ⟨gb939, 2, none⟩ = some (.int .i64 t934) ∧ w'.cell? ⟨gb939, 3, none⟩ = some (.int .i64 t935) ∧ w'.cell? ⟨gb939, 4, none⟩ = some (.int .i64 t936) ∧ w'.cell? ⟨gb939, 5, none⟩ = some (.int .i64 t937) ∧ w'.cell? ⟨gb939, 6, none⟩ = some (.int .i64 t938) ∧ w'.cell? ⟨gb862, 0, none⟩ = some (.int .i64 t846) ∧ w'.cell? ⟨gb862, 1, none⟩ = some (.int .i64 t847) ∧ w'.cell? ⟨gb862, 2, none⟩ = some (.string t848) ∧ w'.cell? ⟨gb862, 3, none⟩ = some (.int .i64 t849) ∧ w'.cell? ⟨gb862, 4, none⟩ = some (.int .i64 t850) ∧ w'.cell? ⟨gb862, 5, none⟩ = some (.int .i64 t851) ∧ w'.cell? ⟨gb862, 6, none⟩ = some (.string t852) ∧ w'.cell? ⟨gb862, 7, none⟩ = some (.int .i64 t853) ∧ w'.cell? ⟨gb862, 8, none⟩ = some (.int .i64 t854) ∧ w'.cell? ⟨gb862, 9, none⟩ = some (.int .i64 t855) ∧ w'.cell? ⟨gb862, 10, none⟩ = some (.string t856) ∧ w'.cell? ⟨gb862, 11, none⟩ = some (.int .i64 t857) ∧ w'.cell? ⟨gb862, 12, none⟩ = some (.int .i64 t858) ∧ w'.cell? ⟨gb862, 13, none⟩ = some (.int .i64 t859) ∧ w'.cell? ⟨gb862, 14, none⟩ = some (.int .i64 t860) ∧ w'.cell? ⟨gb862, 15, none⟩ = some (.int .i64 t861)) (ds := []) (rl [0,34]) (by kernel_rfl) rfl rfl (cw8 BK931.out (cw7 BK939.out (cz16 BK862.out))) (fun hHeld => ?_); refine with_tabW laws_FnItems.tab11 laws_FnItems.bits11 (fun HT_ HW_ => ?_)
   generalize w57.drew = w112 at HO865 HO886 BK862 BK883 BK904 BK922 BK931 BK939 HB hHeld ⊢
   refine pz_ (i := 0) (N := some 41) HT_ (rl [1,33]) rfl rfl ?_
   refine pz_ (i := 1) (N := some 42) HT_ (rl [2,32]) rfl rfl ?_
   refine pz_ (i := 2) (N := some 43) HT_ (rl [3,31]) rfl rfl ?_
   refine pz_ (i := 3) (N := some 44) HT_ (rl [4,30]) rfl rfl ?_
   refine pz_ (i := 4) (N := some 45) HT_ (rl [5,29]) rfl rfl ?_
   refine pz_ (i := 5) (N := some 46) HT_ (rl [6,28]) rfl rfl ?_
   refine pu_ (i := 6) (N := some 47) HT_ (rl [7,27]) rfl rfl ?_
   refine pu_ (i := 7) (N := some 48) HT_ (rl [8,26]) rfl rfl ?_
   refine pu_ (i := 8) (N := some 49) HT_ (rl [9,25]) rfl rfl ?_
   refine pu_ (i := 9) (N := some 50) HT_ (rl [10,24]) rfl rfl ?_
   refine pu_ (i := 10) (N := some 51) HT_ (rl [11,23]) rfl rfl ?_
   refine pz_ (i := 11) (N := some 52) HT_ (rl [12,22]) rfl rfl ?_
   refine pz_ (i := 12) (N := some 53) HT_ (rl [13,21]) rfl rfl ?_
   refine pz_ (i := 13) (N := some 54) HT_ (rl [14,20]) rfl rfl ?_
   refine tz_ (i := 14) (N := some 55) HT_ HW_ (rl [15,19]) rfl rfl hHeld ?_ (hy := fun w' ⟨s0, s1, s2, s3, s4, s5, s6, s7, _, _, _, _, _, _, _, _, _, _, _, _, _, _, _, _, _, _, _, _, _, _, _⟩ => ldr8 s0 s1 s2 s3 s4 s5 s6 s7)
   refine tz_ (i := 16) (N := some 57) HT_ HW_ (rl [15,1,1,17]) rfl rfl hHeld ?_ (hy := fun w' ⟨s0, s1, s2, s3, s4, s5, s6, s7, _, _, _, _, _, _, _, _, _, _, _, _, _, _, _, _, _, _, _, _, _, _, _⟩ => ldr8 s0 s1 s2 s3 s4 s5 s6 s7)
   refine one_ (i := 15) (N := some 56) (rl [17,17]) rfl rfl (one_of HT_.out (by kernel_rfl)) (by decide) (fun K hK => ?_)
   refine goes_ Try.func16 (by kernel_rfl) rfl #[.agg #[.int .i64 t923, .string t924, .int .i64 t925, .int .i64 t926, .int .i64 t927, .string t928, .int .i64 t929, .int .i64 t930]] (by rfl) rfl rfl la_ ?_
   with_reducible refine (impl_AskerOk.calls k t923 t924 t925 t926 t927 t928 t929 t930 t952 _ A96.out).mono ?_
   rintro e w113 ⟨rfl, hb⟩
   refine ⟨_, rfl, ?_⟩
   replace HO865 := rB_ HO865 hb
   replace HO886 := rB_ HO886 hb
   replace BK862 := bK_ BK862 hb
   replace BK883 := bK_ BK883 hb
   replace BK904 := bK_ BK904 hb
   replace BK922 := bK_ BK922 hb
   replace BK931 := bK_ BK931 hb
   replace BK939 := bK_ BK939 hb
   replace HB := bS_ HB hb
   (try clear hb)
   refine hK.out _ _ (cw8 BK931.out (cw7 BK939.out (cz16 BK862.out))) (fun hHeld => ?_)
   clear hK K
   refine norm_ (a' := ?_) ?_ ?_
   rotate_left
   ·
    show Act.put _ (some 56) _ = _
    exact ap_
   refine one_ (i := 17) (N := some 58) (rl [18,16]) rfl rfl (one_of HT_.out (by kernel_rfl)) (by decide) (fun K hK => ?_)
   refine goes_ Try.func17 (by kernel_rfl) rfl #[.agg #[.int .i64 t923, .string t924, .int .i64 t925, .int .i64 t926, .int .i64 t927, .string t928, .int .i64 t929, .int .i64 t930]] (by rfl) rfl rfl la_ ?_
   with_reducible refine (spec_AskerOk.calls k t923 t924 t925 t926 t927 t928 t929 t930 t953 _ A97.out).mono ?_
   rintro e w114 ⟨rfl, hb⟩
   refine ⟨_, rfl, ?_⟩
   replace HO865 := rB_ HO865 hb
   replace HO886 := rB_ HO886 hb
   replace BK862 := bK_ BK862 hb
   replace BK883 := bK_ BK883 hb
   replace BK904 := bK_ BK904 hb
   replace BK922 := bK_ BK922 hb
   replace BK931 := bK_ BK931 hb
   replace BK939 := bK_ BK939 hb
   replace HB := bS_ HB hb
   (try clear hb)
   refine hK.out _ _ (cw8 BK931.out (cw7 BK939.out (cz16 BK862.out))) (fun hHeld => ?_)
   clear hK K
   refine norm_ (a' := ?_) ?_ ?_
   rotate_left
   ·
    show Act.put _ (some 58) _ = _
    exact ap_
   refine pz_ (i := 18) (N := some 59) HT_ (rl [19,15]) rfl rfl ?_
   refine pz_ (i := 19) (N := some 60) HT_ (rl [20,14]) rfl rfl ?_
   refine pz_ (i := 20) (N := some 61) HT_ (rl [21,13]) rfl rfl ?_
   refine tz_ (i := 21) (N := some 62) HT_ HW_ (rl [22,12]) rfl rfl hHeld ?_ (hy := fun w' ⟨_, _, _, _, _, _, _, _, s8, s9, s10, s11, s12, s13, s14, _, _, _, _, _, _, _, _, _, _, _, _, _, _, _, _⟩ => ldr7 s8 s9 s10 s11 s12 s13 s14)
   refine tz_ (i := 23) (N := some 64) HT_ HW_ (rl [22,1,1,10]) rfl rfl hHeld ?_ (hy := fun w' ⟨_, _, _, _, _, _, _, _, s8, s9, s10, s11, s12, s13, s14, _, _, _, _, _, _, _, _, _, _, _, _, _, _, _, _⟩ => ldr7 s8 s9 s10 s11 s12 s13 s14)
   refine one_ (i := 22) (N := some 63) (rl [24,10]) rfl rfl (one_of HT_.out (by kernel_rfl)) (by decide) (fun K hK => ?_)
   refine goes_ Try.func18 (by kernel_rfl) rfl #[.agg #[.int .i64 t932, .string t933, .int .i64 t934, .int .i64 t935, .int .i64 t936, .int .i64 t937, .int .i64 t938]] (by rfl) rfl rfl la_ ?_
   with_reducible refine (impl_LineOk.calls k t932 t933 t934 t935 t936 t937 t938 t954 _ A102.out).mono ?_
   rintro e w115 ⟨rfl, hb⟩
   refine ⟨_, rfl, ?_⟩
   replace HO865 := rB_ HO865 hb
   replace HO886 := rB_ HO886 hb
   replace BK862 := bK_ BK862 hb
   replace BK883 := bK_ BK883 hb
   replace BK904 := bK_ BK904 hb
   replace BK922 := bK_ BK922 hb
   replace BK931 := bK_ BK931 hb
   replace BK939 := bK_ BK939 hb
   replace HB := bS_ HB hb
   (try clear hb)
   refine hK.out _ _ (cw8 BK931.out (cw7 BK939.out (cz16 BK862.out))) (fun hHeld => ?_)
   clear hK K
   refine norm_ (a' := ?_) ?_ ?_
   rotate_left
   ·
    show Act.put _ (some 63) _ = _
    exact ap_
   refine one_ (i := 24) (N := some 65) (rl [25,9]) rfl rfl (one_of HT_.out (by kernel_rfl)) (by decide) (fun K hK => ?_)
   refine goes_ Try.func19 (by kernel_rfl) rfl #[.agg #[.int .i64 t932, .string t933, .int .i64 t934, .int .i64 t935, .int .i64 t936, .int .i64 t937, .int .i64 t938]] (by rfl) rfl rfl la_ ?_
   with_reducible refine (spec_LineOk.calls k t932 t933 t934 t935 t936 t937 t938 t955 _ A103.out).mono ?_
   rintro e w116 ⟨rfl, hb⟩
   refine ⟨_, rfl, ?_⟩
   replace HO865 := rB_ HO865 hb
   replace HO886 := rB_ HO886 hb
   replace BK862 := bK_ BK862 hb
   replace BK883 := bK_ BK883 hb
   replace BK904 := bK_ BK904 hb
   replace BK922 := bK_ BK922 hb
   replace BK931 := bK_ BK931 hb
   replace BK939 := bK_ BK939 hb
   replace HB := bS_ HB hb
   (try clear hb)
   refine hK.out _ _ (cw8 BK931.out (cw7 BK939.out (cz16 BK862.out))) (fun hHeld => ?_)
   clear hK K
   refine norm_ (a' := ?_) ?_ ?_
   rotate_left
   ·
    show Act.put _ (some 65) _ = _
    exact ap_
   refine pz_ (i := 25) (N := some 66) HT_ (rl [26,8]) rfl rfl ?_
   refine pz_ (i := 26) (N := some 67) HT_ (rl [27,7]) rfl rfl ?_
   refine pz_ (i := 27) (N := some 68) HT_ (rl [28,6]) rfl rfl ?_
   refine pz_ (i := 28) (N := some 69) HT_ (rl [29,5]) rfl rfl ?_
   refine tz_ (i := 29) (N := some 70) HT_ HW_ (rl [30,4]) rfl rfl hHeld ?_ (hy := fun w' ⟨_, _, _, _, _, _, _, _, _, _, _, _, _, _, _, s15, s16, s17, s18, s19, s20, s21, s22, s23, s24, s25, s26, s27, s28, s29, s30⟩ => ldr16 s15 s16 s17 s18 s19 s20 s21 s22 s23 s24 s25 s26 s27 s28 s29 s30)
   refine one_ (i := 30) (N := some 71) (rl [31,3]) rfl rfl (one_of HT_.out (by kernel_rfl)) (by decide) (fun K hK => ?_)
   refine goes_ Try.func20 (by kernel_rfl) rfl #[.agg #[.int .i64 t846, .int .i64 t847, .string t848, .int .i64 t849, .int .i64 t850, .int .i64 t851, .string t852, .int .i64 t853, .int .i64 t854, .int .i64 t855, .string t856, .int .i64 t857, .int .i64 t858, .int .i64 t859, .int .i64 t860, .int .i64 t861]] (by rfl) rfl rfl la_ ?_
   with_reducible refine (spec_PutItem.calls k t846 t847 t848 t849 t850 t851 t852 t853 t854 t855 t856 t857 t858 t859 t860 t861 t956 _ A110.out).mono ?_
   rintro e w117 ⟨v957, rfl, ho0, hb⟩
   refine ⟨_, rfl, ?_⟩
   have HO958 := am_ (Kd.R_lower (Kd.R_new' (Kd.R_new' ho0 (Kd.R_lt (qR HO865))) (Kd.R_lt (qR HO886))) (below_size (qB HB)))
   replace HO865 := eA_ HO865 ho0 hb
   replace HO886 := eA_ HO886 ho0 hb
   replace BK862 := bK_ BK862 hb
   replace BK883 := bK_ BK883 hb
   replace BK904 := bK_ BK904 hb
   replace BK922 := bK_ BK922 hb
   replace BK931 := bK_ BK931 hb
   replace BK939 := bK_ BK939 hb
   replace HB := bS_ HB hb
   (try clear hb ho0)
   obtain ⟨Ao118, co118, eo118⟩ := Kd.R_slice HO958.out
   (first | subst eo118 | (injection eo118 with f1_ f2_ f3_; have f4_ := f1_.symm; have f5_ := f3_.symm; clear f1_ f2_ f3_; subst f4_; subst f5_))
   refine hK.out _ _ (cw8 BK931.out (cw7 BK939.out (cz16 BK862.out))) (fun hHeld => ?_)
   clear hK K
   refine norm_ (a' := ?_) ?_ ?_
   rotate_left
   ·
    show Act.put _ (some 71) _ = _
    exact ap_
   refine one_ (i := 31) (N := some 72) (rl [32,2]) rfl rfl (one_of HT_.out (by kernel_rfl)) (by decide) (fun K hK => ?_)
   refine goes_ Try.func15 (by kernel_rfl) rfl #[.slice Ao20 t863.length co20, .slice Ao118 t956.length co118] (by rfl) rfl rfl la_ ?_
   with_reducible refine (laws_same.calls _ _ t863 _ _ t956 t959 _ ?side1 ?side2 ?side3 ?side4 A111.out).mono ?_
   (case side1 => exact qC ((Kd.R_reads' HO865.out).2.2))
   (case side2 => exact (Kd.R_reads' HO865.out).2.1)
   (case side3 => exact qC ((Kd.R_reads' HO958.out).2.2))
   (case side4 => exact (Kd.R_reads' HO958.out).2.1)
   rintro e w' ⟨rfl, ⟨nd, rfl⟩⟩
   refine ⟨_, rfl, ?_⟩
   refine hK.out _ _ (cw8 BK931.out (cw7 BK939.out (cz16 BK862.out))) (fun hHeld => ?_)
   clear hK K
   refine norm_ (a' := ?_) ?_ ?_
   rotate_left
   ·
    show Act.put _ (some 72) _ = _
    exact ap_
   refine pz_ (i := 32) (N := some 73) HT_ (rl [33,1]) rfl rfl ?_
   refine pz_ (i := 33) (N := some 74) HT_ (rl [34]) rfl rfl ?_
   refine done_ (done_of HT_.out (by kernel_rfl)) ?_
   try go_wp2_with ((with_reducible refine gate_ld rfl ?_); first | refine ld_ ?_ | fail)
   go_meet
   case rel => exact ⟨_, (!t959), eqq_, H', ⟨by first | omega | exact Nat.le_refl _⟩, ⟨by (with_reducible repeat (first | apply Kd.R_alloc | apply Kd.R_drewN | apply Kd.R_drew)); exact Kd.R_mono HO865.out (fun _ hk => trivial)⟩, ⟨qK BK862⟩, ⟨qK BK883⟩, ⟨qK BK904⟩, ⟨qK BK922⟩, ⟨qK BK931⟩, ⟨qK BK939⟩, ⟨qB HB⟩⟩
  subst c60
  rw [if_pos rfl] at H
  replace H := bd_ H
  obtain ⟨t940, A61, H⟩ := H
  replace H := bd_ H
  obtain ⟨t943, A62, H⟩ := H
  by_cases c63 : t943 = true
  rotate_left
  ·
   replace c63 := Bool.eq_false_iff.mpr c63
   subst c63
   rw [if_neg (show ¬ (false = true) by decide)] at H
   have H' := Aside0.mk H
   clear H
   try go_wp2_with ((with_reducible refine gate_ld rfl ?_); first | refine ld_ ?_ | fail)
   replace HO865 := am_ (Kd.R_drew HO865.out)
   replace HO886 := am_ (Kd.R_drew HO886.out)
   replace BK862 := am_ (blk_drew BK862.out)
   replace BK883 := am_ (blk_drew BK883.out)
   replace BK904 := am_ (blk_drew BK904.out)
   replace BK922 := am_ (blk_drew BK922.out)
   replace BK931 := am_ (blk_drew BK931.out)
   replace BK939 := am_ (blk_drew BK939.out)
   replace HB := am_ (below_drew1 HB.out)
   refine start_ (n := 34) (S := fun w' => w'.cell? ⟨gb904, 0, none⟩ = some (.int .i64 t887) ∧ w'.cell? ⟨gb904, 1, none⟩ = some (.int .i64 t888) ∧ w'.cell? ⟨gb904, 2, none⟩ = some (.string t889) ∧ w'.cell? ⟨gb904, 3, none⟩ = some (.int .i64 t890) ∧ w'.cell? ⟨gb904, 4, none⟩ = some (.int .i64 t891) ∧ w'.cell? ⟨gb904, 5, none⟩ = some (.int .i64 t892) ∧ w'.cell? ⟨gb904, 6, none⟩ = some (.string t893) ∧ w'.cell? ⟨gb904, 7, none⟩ = some (.int .i64 t894) ∧ w'.cell? ⟨gb904, 8, none⟩ = some (.int .i64 t895) ∧ w'.cell? ⟨gb904, 9, none⟩ = some (.int .i64 t896) ∧ w'.cell? ⟨gb904, 10, none⟩ = some (.string t897) ∧ w'.cell? ⟨gb904, 11, none⟩ = some (.int .i64 t898) ∧ w'.cell? ⟨gb904, 12, none⟩ = some (.int .i64 t899) ∧ w'.cell? ⟨gb904, 13, none⟩ = some (.int .i64 t900) ∧ w'.cell? ⟨gb904, 14, none⟩ = some (.int .i64 t901) ∧ w'.cell? ⟨gb904, 15, none⟩ = some (.int .i64 t902)) (ds := []) (rl [0,34]) (by kernel_rfl) rfl rfl (cz16 BK904.out) (fun hHeld => ?_); refine with_tabW laws_FnItems.tab11 laws_FnItems.bits11 (fun HT_ HW_ => ?_)
   generalize w57.drew = w93 at HO865 HO886 BK862 BK883 BK904 BK922 BK931 BK939 HB hHeld ⊢
   refine pz_ (i := 0) (N := some 41) HT_ (rl [1,33]) rfl rfl ?_
   refine pz_ (i := 1) (N := some 42) HT_ (rl [2,32]) rfl rfl ?_
   refine pz_ (i := 2) (N := some 43) HT_ (rl [3,31]) rfl rfl ?_
   refine pz_ (i := 3) (N := some 44) HT_ (rl [4,30]) rfl rfl ?_
   refine pz_ (i := 4) (N := some 45) HT_ (rl [5,29]) rfl rfl ?_
   refine pz_ (i := 5) (N := some 46) HT_ (rl [6,28]) rfl rfl ?_
   refine pz_ (i := 8) (N := some 49) HT_ (rl [6,2,1,25]) rfl rfl ?_
   refine tz_ (i := 6) (N := some 47) HT_ HW_ (rl [7,1,1,25]) rfl rfl hHeld ?_ (hy := fun w' ⟨s0, s1, s2, s3, s4, s5, s6, s7, s8, s9, s10, s11, s12, s13, s14, s15⟩ => ldr16 s0 s1 s2 s3 s4 s5 s6 s7 s8 s9 s10 s11 s12 s13 s14 s15)
   refine one_ (i := 7) (N := some 48) (rl [9,25]) rfl rfl (one_of HT_.out (by kernel_rfl)) (by decide) (fun K hK => ?_)
   refine goes_ Try.func9 (by kernel_rfl) rfl #[.agg #[.int .i64 t887, .int .i64 t888, .string t889, .int .i64 t890, .int .i64 t891, .int .i64 t892, .string t893, .int .i64 t894, .int .i64 t895, .int .i64 t896, .string t897, .int .i64 t898, .int .i64 t899, .int .i64 t900, .int .i64 t901, .int .i64 t902]] (by rfl) rfl rfl la_ ?_
   with_reducible refine (impl_PutItem.calls k t887 t888 t889 t890 t891 t892 t893 t894 t895 t896 t897 t898 t899 t900 t901 t902 t940 _ A61.out).mono ?_
   rintro e w94 ⟨v941, rfl, ho0, hb⟩
   refine ⟨_, rfl, ?_⟩
   have HO942 := am_ (Kd.R_lower (Kd.R_new' (Kd.R_new' ho0 (Kd.R_lt (qR HO865))) (Kd.R_lt (qR HO886))) (below_size (qB HB)))
   replace HO865 := eA_ HO865 ho0 hb
   replace HO886 := eA_ HO886 ho0 hb
   replace BK862 := bK_ BK862 hb
   replace BK883 := bK_ BK883 hb
   replace BK904 := bK_ BK904 hb
   replace BK922 := bK_ BK922 hb
   replace BK931 := bK_ BK931 hb
   replace BK939 := bK_ BK939 hb
   replace HB := bS_ HB hb
   (try clear hb ho0)
   obtain ⟨Ao95, co95, eo95⟩ := Kd.R_slice HO942.out
   (first | subst eo95 | (injection eo95 with f1_ f2_ f3_; have f4_ := f1_.symm; have f5_ := f3_.symm; clear f1_ f2_ f3_; subst f4_; subst f5_))
   refine hK.out _ _ (cz16 BK904.out) (fun hHeld => ?_)
   clear hK K
   refine norm_ (a' := ?_) ?_ ?_
   rotate_left
   ·
    show Act.put _ (some 48) _ = _
    exact ap_
   refine one_ (i := 9) (N := some 50) (rl [10,24]) rfl rfl (one_of HT_.out (by kernel_rfl)) (by decide) (fun K hK => ?_)
   refine goes_ Try.func15 (by kernel_rfl) rfl #[.slice Ao95 t940.length co95, .slice Ao27 t884.length co27] (by rfl) rfl rfl la_ ?_
   with_reducible refine (laws_same.calls _ _ t940 _ _ t884 false _ ?side1 ?side2 ?side3 ?side4 A62.out).mono ?_
   (case side1 => exact qC ((Kd.R_reads' HO942.out).2.2))
   (case side2 => exact (Kd.R_reads' HO942.out).2.1)
   (case side3 => exact qC ((Kd.R_reads' HO886.out).2.2))
   (case side4 => exact (Kd.R_reads' HO886.out).2.1)
   rintro e w' ⟨rfl, ⟨nd, rfl⟩⟩
   refine ⟨_, rfl, ?_⟩
   refine hK.out _ _ (cz16 BK904.out) (fun hHeld => ?_)
   clear hK K
   refine norm_ (a' := ?_) ?_ ?_
   rotate_left
   ·
    show Act.put _ (some 50) _ = _
    exact ap_
   refine pz_ (i := 10) (N := some 51) HT_ (rl [11,23]) rfl rfl ?_
   refine pz_ (i := 11) (N := some 52) HT_ (rl [12,22]) rfl rfl ?_
   refine pz_ (i := 12) (N := some 53) HT_ (rl [13,21]) rfl rfl ?_
   refine pz_ (i := 13) (N := some 54) HT_ (rl [14,20]) rfl rfl ?_
   refine pu_ (i := 14) (N := some 55) HT_ (rl [15,19]) rfl rfl ?_
   refine pu_ (i := 15) (N := some 56) HT_ (rl [16,18]) rfl rfl ?_
   refine pu_ (i := 16) (N := some 57) HT_ (rl [17,17]) rfl rfl ?_
   refine pu_ (i := 17) (N := some 58) HT_ (rl [18,16]) rfl rfl ?_
   refine pu_ (i := 18) (N := some 59) HT_ (rl [19,15]) rfl rfl ?_
   refine pz_ (i := 19) (N := some 60) HT_ (rl [20,14]) rfl rfl ?_
   refine pz_ (i := 20) (N := some 61) HT_ (rl [21,13]) rfl rfl ?_
   refine pu_ (i := 21) (N := some 62) HT_ (rl [22,12]) rfl rfl ?_
   refine pu_ (i := 22) (N := some 63) HT_ (rl [23,11]) rfl rfl ?_
   refine pu_ (i := 23) (N := some 64) HT_ (rl [24,10]) rfl rfl ?_
   refine pu_ (i := 24) (N := some 65) HT_ (rl [25,9]) rfl rfl ?_
   refine pu_ (i := 25) (N := some 66) HT_ (rl [26,8]) rfl rfl ?_
   refine pz_ (i := 26) (N := some 67) HT_ (rl [27,7]) rfl rfl ?_
   refine pz_ (i := 27) (N := some 68) HT_ (rl [28,6]) rfl rfl ?_
   refine pu_ (i := 28) (N := some 69) HT_ (rl [29,5]) rfl rfl ?_
   refine pu_ (i := 29) (N := some 70) HT_ (rl [30,4]) rfl rfl ?_
   refine pu_ (i := 30) (N := some 71) HT_ (rl [31,3]) rfl rfl ?_
   refine pu_ (i := 31) (N := some 72) HT_ (rl [32,2]) rfl rfl ?_
   refine pu_ (i := 32) (N := some 73) HT_ (rl [33,1]) rfl rfl ?_
   refine pz_ (i := 33) (N := some 74) HT_ (rl [34]) rfl rfl ?_
   refine done_ (done_of HT_.out (by kernel_rfl)) ?_
   try go_wp2_with ((with_reducible refine gate_ld rfl ?_); first | refine ld_ ?_ | fail)
   go_meet
   case rel => exact ⟨_, (true), eqq_, H', ⟨by first | omega | exact Nat.le_refl _⟩, ⟨by (with_reducible repeat (first | apply Kd.R_alloc | apply Kd.R_drewN | apply Kd.R_drew)); exact Kd.R_mono HO865.out (fun _ hk => trivial)⟩, ⟨qK BK862⟩, ⟨qK BK883⟩, ⟨qK BK904⟩, ⟨qK BK922⟩, ⟨qK BK931⟩, ⟨qK BK939⟩, ⟨qB HB⟩⟩
  subst c63
  rw [if_pos rfl] at H
  replace H := bd_ H
  obtain ⟨t944, A64, H⟩ := H
  replace H := bd_ H
  obtain ⟨t945, A65, H⟩ := H
  by_cases c66 : (t944 != t945) = true
  ·
   rw [if_pos c66] at H
   have c66b0 : (t944 != t945) = true := c66
   (try (have c66b1 : decide (t944 = t945) = false := by simpa using c66))
   (try (have c66b2 : (t944 == t945) = false := by simpa using c66))
   (try (have c66b3 : ¬ (t944 = t945) := by simpa using c66))
   clear c66
   have H' := Aside0.mk H
   clear H
   try go_wp2_with ((with_reducible refine gate_ld rfl ?_); first | refine ld_ ?_ | fail)
   replace HO865 := am_ (Kd.R_drew HO865.out)
   replace HO886 := am_ (Kd.R_drew HO886.out)
   replace BK862 := am_ (blk_drew BK862.out)
   replace BK883 := am_ (blk_drew BK883.out)
   replace BK904 := am_ (blk_drew BK904.out)
   replace BK922 := am_ (blk_drew BK922.out)
   replace BK931 := am_ (blk_drew BK931.out)
   replace BK939 := am_ (blk_drew BK939.out)
   replace HB := am_ (below_drew1 HB.out)
   refine start_ (n := 34) (S := fun w' => w'.cell? ⟨gb904, 0, none⟩ = some (.int .i64 t887) ∧ w'.cell? ⟨gb904, 1, none⟩ = some (.int .i64 t888) ∧ w'.cell? ⟨gb904, 2, none⟩ = some (.string t889) ∧ w'.cell? ⟨gb904, 3, none⟩ = some (.int .i64 t890) ∧ w'.cell? ⟨gb904, 4, none⟩ = some (.int .i64 t891) ∧ w'.cell? ⟨gb904, 5, none⟩ = some (.int .i64 t892) ∧ w'.cell? ⟨gb904, 6, none⟩ = some (.string t893) ∧ w'.cell? ⟨gb904, 7, none⟩ = some (.int .i64 t894) ∧ w'.cell? ⟨gb904, 8, none⟩ = some (.int .i64 t895) ∧ w'.cell? ⟨gb904, 9, none⟩ = some (.int .i64 t896) ∧ w'.cell? ⟨gb904, 10, none⟩ = some (.string t897) ∧ w'.cell? ⟨gb904, 11, none⟩ = some (.int .i64 t898) ∧ w'.cell? ⟨gb904, 12, none⟩ = some (.int .i64 t899) ∧ w'.cell? ⟨gb904, 13, none⟩ = some (.int .i64 t900) ∧ w'.cell? ⟨gb904, 14, none⟩ = some (.int .i64 t901) ∧ w'.cell? ⟨gb904, 15, none⟩ = some (.int .i64 t902) ∧ w'.cell? ⟨gb931, 0, none⟩ = some (.int .i64 t923) ∧ w'.cell? ⟨gb931, 1, none⟩ = some (.string t924) ∧ w'.cell? ⟨gb931, 2, none⟩ = some (.int .i64 t925) ∧ w'.cell? ⟨gb931, 3, none⟩ = some (.int .i64 t926) ∧ w'.cell? ⟨gb931, 4, none⟩ = some (.int .i64 t927) ∧ w'.cell? ⟨gb931, 5, none⟩ = some (.string t928) ∧ w'.cell? ⟨gb931, 6, none⟩ = some (.int .i64 t929) ∧ w'.cell? ⟨gb931, 7, none⟩ = some (.int .i64 t930)) (ds := []) (rl [0,34]) (by kernel_rfl) rfl rfl (cw16 BK904.out (cz8 BK931.out)) (fun hHeld => ?_); refine with_tabW laws_FnItems.tab11 laws_FnItems.bits11 (fun HT_ HW_ => ?_)
   generalize w57.drew = w67 at HO865 HO886 BK862 BK883 BK904 BK922 BK931 BK939 HB hHeld ⊢
   refine pz_ (i := 0) (N := some 41) HT_ (rl [1,33]) rfl rfl ?_
   refine pz_ (i := 1) (N := some 42) HT_ (rl [2,32]) rfl rfl ?_
   refine pz_ (i := 2) (N := some 43) HT_ (rl [3,31]) rfl rfl ?_
   refine pz_ (i := 3) (N := some 44) HT_ (rl [4,30]) rfl rfl ?_
   refine pz_ (i := 4) (N := some 45) HT_ (rl [5,29]) rfl rfl ?_
   refine pz_ (i := 5) (N := some 46) HT_ (rl [6,28]) rfl rfl ?_
   refine pz_ (i := 8) (N := some 49) HT_ (rl [6,2,1,25]) rfl rfl ?_
   refine tz_ (i := 6) (N := some 47) HT_ HW_ (rl [7,1,1,25]) rfl rfl hHeld ?_ (hy := fun w' ⟨s0, s1, s2, s3, s4, s5, s6, s7, s8, s9, s10, s11, s12, s13, s14, s15, _, _, _, _, _, _, _, _⟩ => ldr16 s0 s1 s2 s3 s4 s5 s6 s7 s8 s9 s10 s11 s12 s13 s14 s15)
   refine one_ (i := 7) (N := some 48) (rl [9,25]) rfl rfl (one_of HT_.out (by kernel_rfl)) (by decide) (fun K hK => ?_)
   refine goes_ Try.func9 (by kernel_rfl) rfl #[.agg #[.int .i64 t887, .int .i64 t888, .string t889, .int .i64 t890, .int .i64 t891, .int .i64 t892, .string t893, .int .i64 t894, .int .i64 t895, .int .i64 t896, .string t897, .int .i64 t898, .int .i64 t899, .int .i64 t900, .int .i64 t901, .int .i64 t902]] (by rfl) rfl rfl la_ ?_
   with_reducible refine (impl_PutItem.calls k t887 t888 t889 t890 t891 t892 t893 t894 t895 t896 t897 t898 t899 t900 t901 t902 t940 _ A61.out).mono ?_
   rintro e w68 ⟨v941, rfl, ho0, hb⟩
   refine ⟨_, rfl, ?_⟩
   have HO942 := am_ (Kd.R_lower (Kd.R_new' (Kd.R_new' ho0 (Kd.R_lt (qR HO865))) (Kd.R_lt (qR HO886))) (below_size (qB HB)))
   replace HO865 := eA_ HO865 ho0 hb
   replace HO886 := eA_ HO886 ho0 hb
   replace BK862 := bK_ BK862 hb
   replace BK883 := bK_ BK883 hb
   replace BK904 := bK_ BK904 hb
   replace BK922 := bK_ BK922 hb
   replace BK931 := bK_ BK931 hb
   replace BK939 := bK_ BK939 hb
   replace HB := bS_ HB hb
   (try clear hb ho0)
   obtain ⟨Ao69, co69, eo69⟩ := Kd.R_slice HO942.out
   (first | subst eo69 | (injection eo69 with f1_ f2_ f3_; have f4_ := f1_.symm; have f5_ := f3_.symm; clear f1_ f2_ f3_; subst f4_; subst f5_))
   refine hK.out _ _ (cw16 BK904.out (cz8 BK931.out)) (fun hHeld => ?_)
   clear hK K
   refine norm_ (a' := ?_) ?_ ?_
   rotate_left
   ·
    show Act.put _ (some 48) _ = _
    exact ap_
   refine one_ (i := 9) (N := some 50) (rl [10,24]) rfl rfl (one_of HT_.out (by kernel_rfl)) (by decide) (fun K hK => ?_)
   refine goes_ Try.func15 (by kernel_rfl) rfl #[.slice Ao69 t940.length co69, .slice Ao27 t884.length co27] (by rfl) rfl rfl la_ ?_
   with_reducible refine (laws_same.calls _ _ t940 _ _ t884 true _ ?side1 ?side2 ?side3 ?side4 A62.out).mono ?_
   (case side1 => exact qC ((Kd.R_reads' HO942.out).2.2))
   (case side2 => exact (Kd.R_reads' HO942.out).2.1)
   (case side3 => exact qC ((Kd.R_reads' HO886.out).2.2))
   (case side4 => exact (Kd.R_reads' HO886.out).2.1)
   rintro e w' ⟨rfl, ⟨nd, rfl⟩⟩
   refine ⟨_, rfl, ?_⟩
   refine hK.out _ _ (cw16 BK904.out (cz8 BK931.out)) (fun hHeld => ?_)
   clear hK K
   refine norm_ (a' := ?_) ?_ ?_
   rotate_left
   ·
    show Act.put _ (some 50) _ = _
    exact ap_
   refine pz_ (i := 10) (N := some 51) HT_ (rl [11,23]) rfl rfl ?_
   refine pz_ (i := 11) (N := some 52) HT_ (rl [12,22]) rfl rfl ?_
   refine pz_ (i := 12) (N := some 53) HT_ (rl [13,21]) rfl rfl ?_
   refine pz_ (i := 13) (N := some 54) HT_ (rl [14,20]) rfl rfl ?_
   refine tz_ (i := 14) (N := some 55) HT_ HW_ (rl [15,19]) rfl rfl hHeld ?_ (hy := fun w' ⟨_, _, _, _, _, _, _, _, _, _, _, _, _, _, _, _, s16, s17, s18, s19, s20, s21, s22, s23⟩ => ldr8 s16 s17 s18 s19 s20 s21 s22 s23)
   refine tz_ (i := 16) (N := some 57) HT_ HW_ (rl [15,1,1,17]) rfl rfl hHeld ?_ (hy := fun w' ⟨_, _, _, _, _, _, _, _, _, _, _, _, _, _, _, _, s16, s17, s18, s19, s20, s21, s22, s23⟩ => ldr8 s16 s17 s18 s19 s20 s21 s22 s23)
   refine one_ (i := 15) (N := some 56) (rl [17,17]) rfl rfl (one_of HT_.out (by kernel_rfl)) (by decide) (fun K hK => ?_)
   refine goes_ Try.func16 (by kernel_rfl) rfl #[.agg #[.int .i64 t923, .string t924, .int .i64 t925, .int .i64 t926, .int .i64 t927, .string t928, .int .i64 t929, .int .i64 t930]] (by rfl) rfl rfl la_ ?_
   with_reducible refine (impl_AskerOk.calls k t923 t924 t925 t926 t927 t928 t929 t930 t944 _ A64.out).mono ?_
   rintro e w70 ⟨rfl, hb⟩
   refine ⟨_, rfl, ?_⟩
   replace HO865 := rB_ HO865 hb
   replace HO886 := rB_ HO886 hb
   replace HO942 := rB_ HO942 hb
   replace BK862 := bK_ BK862 hb
   replace BK883 := bK_ BK883 hb
   replace BK904 := bK_ BK904 hb
   replace BK922 := bK_ BK922 hb
   replace BK931 := bK_ BK931 hb
   replace BK939 := bK_ BK939 hb
   replace HB := bS_ HB hb
   (try clear hb)
   refine hK.out _ _ (cw16 BK904.out (cz8 BK931.out)) (fun hHeld => ?_)
   clear hK K
   refine norm_ (a' := ?_) ?_ ?_
   rotate_left
   ·
    show Act.put _ (some 56) _ = _
    exact ap_
   refine one_ (i := 17) (N := some 58) (rl [18,16]) rfl rfl (one_of HT_.out (by kernel_rfl)) (by decide) (fun K hK => ?_)
   refine goes_ Try.func17 (by kernel_rfl) rfl #[.agg #[.int .i64 t923, .string t924, .int .i64 t925, .int .i64 t926, .int .i64 t927, .string t928, .int .i64 t929, .int .i64 t930]] (by rfl) rfl rfl la_ ?_
   with_reducible refine (spec_AskerOk.calls k t923 t924 t925 t926 t927 t928 t929 t930 t945 _ A65.out).mono ?_
   rintro e w71 ⟨rfl, hb⟩
   refine ⟨_, rfl, ?_⟩
   replace HO865 := rB_ HO865 hb
   replace HO886 := rB_ HO886 hb
   replace HO942 := rB_ HO942 hb
   replace BK862 := bK_ BK862 hb
   replace BK883 := bK_ BK883 hb
   replace BK904 := bK_ BK904 hb
   replace BK922 := bK_ BK922 hb
   replace BK931 := bK_ BK931 hb
   replace BK939 := bK_ BK939 hb
   replace HB := bS_ HB hb
   (try clear hb)
   refine hK.out _ _ (cw16 BK904.out (cz8 BK931.out)) (fun hHeld => ?_)
   clear hK K
   refine norm_ (a' := ?_) ?_ ?_
   rotate_left
   ·
    show Act.put _ (some 58) _ = _
    exact ap_
   refine pz_ (i := 18) (N := some 59) HT_ (rl [19,15]) rfl rfl ?_
   refine pz_ (i := 19) (N := some 60) HT_ (rl [20,14]) rfl rfl ?_
   refine pz_ (i := 20) (N := some 61) HT_ (rl [21,13]) rfl rfl ?_
   refine pu_ (i := 21) (N := some 62) HT_ (rl [22,12]) rfl rfl ?_
   refine pu_ (i := 22) (N := some 63) HT_ (rl [23,11]) rfl rfl ?_
   refine pu_ (i := 23) (N := some 64) HT_ (rl [24,10]) rfl rfl ?_
   refine pu_ (i := 24) (N := some 65) HT_ (rl [25,9]) rfl rfl ?_
   refine pu_ (i := 25) (N := some 66) HT_ (rl [26,8]) rfl rfl ?_
   refine pz_ (i := 26) (N := some 67) HT_ (rl [27,7]) rfl rfl ?_
   refine pz_ (i := 27) (N := some 68) HT_ (rl [28,6]) rfl rfl ?_
   refine pu_ (i := 28) (N := some 69) HT_ (rl [29,5]) rfl rfl ?_
   refine pu_ (i := 29) (N := some 70) HT_ (rl [30,4]) rfl rfl ?_
   refine pu_ (i := 30) (N := some 71) HT_ (rl [31,3]) rfl rfl ?_
   refine pu_ (i := 31) (N := some 72) HT_ (rl [32,2]) rfl rfl ?_
   refine pu_ (i := 32) (N := some 73) HT_ (rl [33,1]) rfl rfl ?_
   refine pz_ (i := 33) (N := some 74) HT_ (rl [34]) rfl rfl ?_
   refine done_ (done_of HT_.out (by kernel_rfl)) ?_
   try go_wp2_with ((with_reducible refine gate_ld rfl ?_); first | refine ld_ ?_ | fail)
   go_meet
   case rel => exact ⟨_, (true), eqq_, H', ⟨by first | omega | exact Nat.le_refl _⟩, ⟨by (with_reducible repeat (first | apply Kd.R_alloc | apply Kd.R_drewN | apply Kd.R_drew)); exact Kd.R_mono HO865.out (fun _ hk => trivial)⟩, ⟨qK BK862⟩, ⟨qK BK883⟩, ⟨qK BK904⟩, ⟨qK BK922⟩, ⟨qK BK931⟩, ⟨qK BK939⟩, ⟨qB HB⟩⟩
  rw [if_neg c66] at H
  have c66b0 : (t944 != t945) = false := by simpa using c66
  (try (have c66b1 : decide (t944 = t945) = true := by simpa using c66))
  (try (have c66b2 : (t944 == t945) = true := by simpa using c66))
  clear c66
  replace H := bd_ H
  obtain ⟨t946, A72, H⟩ := H
  replace H := bd_ H
  obtain ⟨t947, A73, H⟩ := H
  by_cases c74 : (t946 != t947) = true
  ·
   rw [if_pos c74] at H
   have c74b0 : (t946 != t947) = true := c74
   (try (have c74b1 : decide (t946 = t947) = false := by simpa using c74))
   (try (have c74b2 : (t946 == t947) = false := by simpa using c74))
   (try (have c74b3 : ¬ (t946 = t947) := by simpa using c74))
   clear c74
   have H' := Aside0.mk H
   clear H
   try go_wp2_with ((with_reducible refine gate_ld rfl ?_); first | refine ld_ ?_ | fail)
   replace HO865 := am_ (Kd.R_drew HO865.out)
   replace HO886 := am_ (Kd.R_drew HO886.out)
   replace BK862 := am_ (blk_drew BK862.out)
   replace BK883 := am_ (blk_drew BK883.out)
   replace BK904 := am_ (blk_drew BK904.out)
   replace BK922 := am_ (blk_drew BK922.out)
   replace BK931 := am_ (blk_drew BK931.out)
   replace BK939 := am_ (blk_drew BK939.out)
   replace HB := am_ (below_drew1 HB.out)
   refine start_ (n := 34) (S := fun w' => w'.cell? ⟨gb904, 0, none⟩ = some (.int .i64 t887) ∧ w'.cell? ⟨gb904, 1, none⟩ = some (.int .i64 t888) ∧ w'.cell? ⟨gb904, 2, none⟩ = some (.string t889) ∧ w'.cell? ⟨gb904, 3, none⟩ = some (.int .i64 t890) ∧ w'.cell? ⟨gb904, 4, none⟩ = some (.int .i64 t891) ∧ w'.cell? ⟨gb904, 5, none⟩ = some (.int .i64 t892) ∧ w'.cell? ⟨gb904, 6, none⟩ = some (.string t893) ∧ w'.cell? ⟨gb904, 7, none⟩ = some (.int .i64 t894) ∧ w'.cell? ⟨gb904, 8, none⟩ = some (.int .i64 t895) ∧ w'.cell? ⟨gb904, 9, none⟩ = some (.int .i64 t896) ∧ w'.cell? ⟨gb904, 10, none⟩ = some (.string t897) ∧ w'.cell? ⟨gb904, 11, none⟩ = some (.int .i64 t898) ∧ w'.cell? ⟨gb904, 12, none⟩ = some (.int .i64 t899) ∧ w'.cell? ⟨gb904, 13, none⟩ = some (.int .i64 t900) ∧ w'.cell? ⟨gb904, 14, none⟩ = some (.int .i64 t901) ∧ w'.cell? ⟨gb904, 15, none⟩ = some (.int .i64 t902) ∧ w'.cell? ⟨gb931, 0, none⟩ = some (.int .i64 t923) ∧ w'.cell? ⟨gb931, 1, none⟩ = some (.string t924) ∧ w'.cell? ⟨gb931, 2, none⟩ = some (.int .i64 t925) ∧ w'.cell? ⟨gb931, 3, none⟩ = some (.int .i64 t926) ∧ w'.cell? ⟨gb931, 4, none⟩ = some (.int .i64 t927) ∧ w'.cell? ⟨gb931, 5, none⟩ = some (.string t928) ∧ w'.cell? ⟨gb931, 6, none⟩ = some (.int .i64 t929) ∧ w'.cell? ⟨gb931, 7, none⟩ = some (.int .i64 t930) ∧ w'.cell? ⟨gb939, 0, none⟩ = some (.int .i64 t932) ∧ w'.cell? ⟨gb939, 1, none⟩ = some (.string t933) ∧ w'.cell? ⟨gb939, 2, none⟩ = some (.int .i64 t934) ∧ w'.cell? ⟨gb939, 3, none⟩ = some (.int .i64 t935) ∧ w'.cell? ⟨gb939, 4, none⟩ = some (.int .i64 t936) ∧ w'.cell? ⟨gb939, 5, none⟩ = some (.int .i64 t937) ∧ w'.cell? ⟨gb939, 6, none⟩ = some (.int .i64 t938)) (ds := []) (rl [0,34]) (by kernel_rfl) rfl rfl (cw16 BK904.out (cw8 BK931.out (cz7 BK939.out))) (fun hHeld => ?_); refine with_tabW laws_FnItems.tab11 laws_FnItems.bits11 (fun HT_ HW_ => ?_)
   generalize w57.drew = w75 at HO865 HO886 BK862 BK883 BK904 BK922 BK931 BK939 HB hHeld ⊢
   refine pz_ (i := 0) (N := some 41) HT_ (rl [1,33]) rfl rfl ?_
   refine pz_ (i := 1) (N := some 42) HT_ (rl [2,32]) rfl rfl ?_
   refine pz_ (i := 2) (N := some 43) HT_ (rl [3,31]) rfl rfl ?_
   refine pz_ (i := 3) (N := some 44) HT_ (rl [4,30]) rfl rfl ?_
   refine pz_ (i := 4) (N := some 45) HT_ (rl [5,29]) rfl rfl ?_
   refine pz_ (i := 5) (N := some 46) HT_ (rl [6,28]) rfl rfl ?_
   refine pz_ (i := 8) (N := some 49) HT_ (rl [6,2,1,25]) rfl rfl ?_
   refine tz_ (i := 6) (N := some 47) HT_ HW_ (rl [7,1,1,25]) rfl rfl hHeld ?_ (hy := fun w' ⟨s0, s1, s2, s3, s4, s5, s6, s7, s8, s9, s10, s11, s12, s13, s14, s15, _, _, _, _, _, _, _, _, _, _, _, _, _, _, _⟩ => ldr16 s0 s1 s2 s3 s4 s5 s6 s7 s8 s9 s10 s11 s12 s13 s14 s15)
   refine one_ (i := 7) (N := some 48) (rl [9,25]) rfl rfl (one_of HT_.out (by kernel_rfl)) (by decide) (fun K hK => ?_)
   refine goes_ Try.func9 (by kernel_rfl) rfl #[.agg #[.int .i64 t887, .int .i64 t888, .string t889, .int .i64 t890, .int .i64 t891, .int .i64 t892, .string t893, .int .i64 t894, .int .i64 t895, .int .i64 t896, .string t897, .int .i64 t898, .int .i64 t899, .int .i64 t900, .int .i64 t901, .int .i64 t902]] (by rfl) rfl rfl la_ ?_
   with_reducible refine (impl_PutItem.calls k t887 t888 t889 t890 t891 t892 t893 t894 t895 t896 t897 t898 t899 t900 t901 t902 t940 _ A61.out).mono ?_
   rintro e w76 ⟨v941, rfl, ho0, hb⟩
   refine ⟨_, rfl, ?_⟩
   have HO942 := am_ (Kd.R_lower (Kd.R_new' (Kd.R_new' ho0 (Kd.R_lt (qR HO865))) (Kd.R_lt (qR HO886))) (below_size (qB HB)))
   replace HO865 := eA_ HO865 ho0 hb
   replace HO886 := eA_ HO886 ho0 hb
   replace BK862 := bK_ BK862 hb
   replace BK883 := bK_ BK883 hb
   replace BK904 := bK_ BK904 hb
   replace BK922 := bK_ BK922 hb
   replace BK931 := bK_ BK931 hb
   replace BK939 := bK_ BK939 hb
   replace HB := bS_ HB hb
   (try clear hb ho0)
   obtain ⟨Ao77, co77, eo77⟩ := Kd.R_slice HO942.out
   (first | subst eo77 | (injection eo77 with f1_ f2_ f3_; have f4_ := f1_.symm; have f5_ := f3_.symm; clear f1_ f2_ f3_; subst f4_; subst f5_))
   refine hK.out _ _ (cw16 BK904.out (cw8 BK931.out (cz7 BK939.out))) (fun hHeld => ?_)
   clear hK K
   refine norm_ (a' := ?_) ?_ ?_
   rotate_left
   ·
    show Act.put _ (some 48) _ = _
    exact ap_
   refine one_ (i := 9) (N := some 50) (rl [10,24]) rfl rfl (one_of HT_.out (by kernel_rfl)) (by decide) (fun K hK => ?_)
   refine goes_ Try.func15 (by kernel_rfl) rfl #[.slice Ao77 t940.length co77, .slice Ao27 t884.length co27] (by rfl) rfl rfl la_ ?_
   with_reducible refine (laws_same.calls _ _ t940 _ _ t884 true _ ?side1 ?side2 ?side3 ?side4 A62.out).mono ?_
   (case side1 => exact qC ((Kd.R_reads' HO942.out).2.2))
   (case side2 => exact (Kd.R_reads' HO942.out).2.1)
   (case side3 => exact qC ((Kd.R_reads' HO886.out).2.2))
   (case side4 => exact (Kd.R_reads' HO886.out).2.1)
   rintro e w' ⟨rfl, ⟨nd, rfl⟩⟩
   refine ⟨_, rfl, ?_⟩
   refine hK.out _ _ (cw16 BK904.out (cw8 BK931.out (cz7 BK939.out))) (fun hHeld => ?_)
   clear hK K
   refine norm_ (a' := ?_) ?_ ?_
   rotate_left
   ·
    show Act.put _ (some 50) _ = _
    exact ap_
   refine pz_ (i := 10) (N := some 51) HT_ (rl [11,23]) rfl rfl ?_
   refine pz_ (i := 11) (N := some 52) HT_ (rl [12,22]) rfl rfl ?_
   refine pz_ (i := 12) (N := some 53) HT_ (rl [13,21]) rfl rfl ?_
   refine pz_ (i := 13) (N := some 54) HT_ (rl [14,20]) rfl rfl ?_
   refine tz_ (i := 14) (N := some 55) HT_ HW_ (rl [15,19]) rfl rfl hHeld ?_ (hy := fun w' ⟨_, _, _, _, _, _, _, _, _, _, _, _, _, _, _, _, s16, s17, s18, s19, s20, s21, s22, s23, _, _, _, _, _, _, _⟩ => ldr8 s16 s17 s18 s19 s20 s21 s22 s23)
   refine tz_ (i := 16) (N := some 57) HT_ HW_ (rl [15,1,1,17]) rfl rfl hHeld ?_ (hy := fun w' ⟨_, _, _, _, _, _, _, _, _, _, _, _, _, _, _, _, s16, s17, s18, s19, s20, s21, s22, s23, _, _, _, _, _, _, _⟩ => ldr8 s16 s17 s18 s19 s20 s21 s22 s23)
   refine one_ (i := 15) (N := some 56) (rl [17,17]) rfl rfl (one_of HT_.out (by kernel_rfl)) (by decide) (fun K hK => ?_)
   refine goes_ Try.func16 (by kernel_rfl) rfl #[.agg #[.int .i64 t923, .string t924, .int .i64 t925, .int .i64 t926, .int .i64 t927, .string t928, .int .i64 t929, .int .i64 t930]] (by rfl) rfl rfl la_ ?_
   with_reducible refine (impl_AskerOk.calls k t923 t924 t925 t926 t927 t928 t929 t930 t944 _ A64.out).mono ?_
   rintro e w78 ⟨rfl, hb⟩
   refine ⟨_, rfl, ?_⟩
   replace HO865 := rB_ HO865 hb
   replace HO886 := rB_ HO886 hb
   replace HO942 := rB_ HO942 hb
   replace BK862 := bK_ BK862 hb
   replace BK883 := bK_ BK883 hb
   replace BK904 := bK_ BK904 hb
   replace BK922 := bK_ BK922 hb
   replace BK931 := bK_ BK931 hb
   replace BK939 := bK_ BK939 hb
   replace HB := bS_ HB hb
   (try clear hb)
   refine hK.out _ _ (cw16 BK904.out (cw8 BK931.out (cz7 BK939.out))) (fun hHeld => ?_)
   clear hK K
   refine norm_ (a' := ?_) ?_ ?_
   rotate_left
   ·
    show Act.put _ (some 56) _ = _
    exact ap_
   refine one_ (i := 17) (N := some 58) (rl [18,16]) rfl rfl (one_of HT_.out (by kernel_rfl)) (by decide) (fun K hK => ?_)
   refine goes_ Try.func17 (by kernel_rfl) rfl #[.agg #[.int .i64 t923, .string t924, .int .i64 t925, .int .i64 t926, .int .i64 t927, .string t928, .int .i64 t929, .int .i64 t930]] (by rfl) rfl rfl la_ ?_
   with_reducible refine (spec_AskerOk.calls k t923 t924 t925 t926 t927 t928 t929 t930 t945 _ A65.out).mono ?_
   rintro e w79 ⟨rfl, hb⟩
   refine ⟨_, rfl, ?_⟩
   replace HO865 := rB_ HO865 hb
   replace HO886 := rB_ HO886 hb
   replace HO942 := rB_ HO942 hb
   replace BK862 := bK_ BK862 hb
   replace BK883 := bK_ BK883 hb
   replace BK904 := bK_ BK904 hb
   replace BK922 := bK_ BK922 hb
   replace BK931 := bK_ BK931 hb
   replace BK939 := bK_ BK939 hb
   replace HB := bS_ HB hb
   (try clear hb)
   refine hK.out _ _ (cw16 BK904.out (cw8 BK931.out (cz7 BK939.out))) (fun hHeld => ?_)
   clear hK K
   refine norm_ (a' := ?_) ?_ ?_
   rotate_left
   ·
    show Act.put _ (some 58) _ = _
    exact ap_
   refine pz_ (i := 18) (N := some 59) HT_ (rl [19,15]) rfl rfl ?_
   refine pz_ (i := 19) (N := some 60) HT_ (rl [20,14]) rfl rfl ?_
   refine pz_ (i := 20) (N := some 61) HT_ (rl [21,13]) rfl rfl ?_
   refine tz_ (i := 21) (N := some 62) HT_ HW_ (rl [22,12]) rfl rfl hHeld ?_ (hy := fun w' ⟨_, _, _, _, _, _, _, _, _, _, _, _, _, _, _, _, _, _, _, _, _, _, _, _, s24, s25, s26, s27, s28, s29, s30⟩ => ldr7 s24 s25 s26 s27 s28 s29 s30)
   refine tz_ (i := 23) (N := some 64) HT_ HW_ (rl [22,1,1,10]) rfl rfl hHeld ?_ (hy := fun w' ⟨_, _, _, _, _, _, _, _, _, _, _, _, _, _, _, _, _, _, _, _, _, _, _, _, s24, s25, s26, s27, s28, s29, s30⟩ => ldr7 s24 s25 s26 s27 s28 s29 s30)
   refine one_ (i := 22) (N := some 63) (rl [24,10]) rfl rfl (one_of HT_.out (by kernel_rfl)) (by decide) (fun K hK => ?_)
   refine goes_ Try.func18 (by kernel_rfl) rfl #[.agg #[.int .i64 t932, .string t933, .int .i64 t934, .int .i64 t935, .int .i64 t936, .int .i64 t937, .int .i64 t938]] (by rfl) rfl rfl la_ ?_
   with_reducible refine (impl_LineOk.calls k t932 t933 t934 t935 t936 t937 t938 t946 _ A72.out).mono ?_
   rintro e w80 ⟨rfl, hb⟩
   refine ⟨_, rfl, ?_⟩
   replace HO865 := rB_ HO865 hb
   replace HO886 := rB_ HO886 hb
   replace HO942 := rB_ HO942 hb
   replace BK862 := bK_ BK862 hb
   replace BK883 := bK_ BK883 hb
   replace BK904 := bK_ BK904 hb
   replace BK922 := bK_ BK922 hb
   replace BK931 := bK_ BK931 hb
   replace BK939 := bK_ BK939 hb
   replace HB := bS_ HB hb
   (try clear hb)
   refine hK.out _ _ (cw16 BK904.out (cw8 BK931.out (cz7 BK939.out))) (fun hHeld => ?_)
   clear hK K
   refine norm_ (a' := ?_) ?_ ?_
   rotate_left
   ·
    show Act.put _ (some 63) _ = _
    exact ap_
   refine one_ (i := 24) (N := some 65) (rl [25,9]) rfl rfl (one_of HT_.out (by kernel_rfl)) (by decide) (fun K hK => ?_)
   refine goes_ Try.func19 (by kernel_rfl) rfl #[.agg #[.int .i64 t932, .string t933, .int .i64 t934, .int .i64 t935, .int .i64 t936, .int .i64 t937, .int .i64 t938]] (by rfl) rfl rfl la_ ?_
   with_reducible refine (spec_LineOk.calls k t932 t933 t934 t935 t936 t937 t938 t947 _ A73.out).mono ?_
   rintro e w81 ⟨rfl, hb⟩
   refine ⟨_, rfl, ?_⟩
   replace HO865 := rB_ HO865 hb
   replace HO886 := rB_ HO886 hb
   replace HO942 := rB_ HO942 hb
   replace BK862 := bK_ BK862 hb
   replace BK883 := bK_ BK883 hb
   replace BK904 := bK_ BK904 hb
   replace BK922 := bK_ BK922 hb
   replace BK931 := bK_ BK931 hb
   replace BK939 := bK_ BK939 hb
   replace HB := bS_ HB hb
   (try clear hb)
   refine hK.out _ _ (cw16 BK904.out (cw8 BK931.out (cz7 BK939.out))) (fun hHeld => ?_)
   clear hK K
   refine norm_ (a' := ?_) ?_ ?_
   rotate_left
   ·
    show Act.put _ (some 65) _ = _
    exact ap_
   refine pz_ (i := 25) (N := some 66) HT_ (rl [26,8]) rfl rfl ?_
   refine pz_ (i := 26) (N := some 67) HT_ (rl [27,7]) rfl rfl ?_
   refine pz_ (i := 27) (N := some 68) HT_ (rl [28,6]) rfl rfl ?_
   refine pu_ (i := 28) (N := some 69) HT_ (rl [29,5]) rfl rfl ?_
   refine pu_ (i := 29) (N := some 70) HT_ (rl [30,4]) rfl rfl ?_
   refine pu_ (i := 30) (N := some 71) HT_ (rl [31,3]) rfl rfl ?_
   refine pu_ (i := 31) (N := some 72) HT_ (rl [32,2]) rfl rfl ?_
   refine pu_ (i := 32) (N := some 73) HT_ (rl [33,1]) rfl rfl ?_
   refine pz_ (i := 33) (N := some 74) HT_ (rl [34]) rfl rfl ?_
   refine done_ (done_of HT_.out (by kernel_rfl)) ?_
   try go_wp2_with ((with_reducible refine gate_ld rfl ?_); first | refine ld_ ?_ | fail)
   go_meet
   case rel => exact ⟨_, (true), eqq_, H', ⟨by first | omega | exact Nat.le_refl _⟩, ⟨by (with_reducible repeat (first | apply Kd.R_alloc | apply Kd.R_drewN | apply Kd.R_drew)); exact Kd.R_mono HO865.out (fun _ hk => trivial)⟩, ⟨qK BK862⟩, ⟨qK BK883⟩, ⟨qK BK904⟩, ⟨qK BK922⟩, ⟨qK BK931⟩, ⟨qK BK939⟩, ⟨qB HB⟩⟩
  rw [if_neg c74] at H
  have c74b0 : (t946 != t947) = false := by simpa using c74
  (try (have c74b1 : decide (t946 = t947) = true := by simpa using c74))
  (try (have c74b2 : (t946 == t947) = true := by simpa using c74))
  clear c74
  replace H := bd_ H
  obtain ⟨t948, A82, H⟩ := H
  replace H := bd_ H
  obtain ⟨t951, A83, H⟩ := H
  have H' := Aside0.mk H
  clear H
  try go_wp2_with ((with_reducible refine gate_ld rfl ?_); first | refine ld_ ?_ | fail)
  replace HO865 := am_ (Kd.R_drew HO865.out)
  replace HO886 := am_ (Kd.R_drew HO886.out)
  replace BK862 := am_ (blk_drew BK862.out)
  replace BK883 := am_ (blk_drew BK883.out)
  replace BK904 := am_ (blk_drew BK904.out)
  replace BK922 := am_ (blk_drew BK922.out)
  replace BK931 := am_ (blk_drew BK931.out)
  replace BK939 := am_ (blk_drew BK939.out)
  replace HB := am_ (below_drew1 HB.out)
  refine start_ (n := 34) (S := fun w' => w'.cell? ⟨gb904, 0, none⟩ = some (.int .i64 t887) ∧ w'.cell? ⟨gb904, 1, none⟩ = some (.int .i64 t888) ∧ w'.cell? ⟨gb904, 2, none⟩ = some (.string t889) ∧ w'.cell? ⟨gb904, 3, none⟩ = some (.int .i64 t890) ∧ w'.cell? ⟨gb904, 4, none⟩ = some (.int .i64 t891) ∧ w'.cell? ⟨gb904, 5, none⟩ = some (.int .i64 t892) ∧ w'.cell? ⟨gb904, 6, none⟩ = some (.string t893) ∧ w'.cell? ⟨gb904, 7, none⟩ = some (.int .i64 t894) ∧ w'.cell? ⟨gb904, 8, none⟩ = some (.int .i64 t895) ∧ w'.cell? ⟨gb904, 9, none⟩ = some (.int .i64 t896) ∧ w'.cell? ⟨gb904, 10, none⟩ = some (.string t897) ∧ w'.cell? ⟨gb904, 11, none⟩ = some (.int .i64 t898) ∧ w'.cell? ⟨gb904, 12, none⟩ = some (.int .i64 t899) ∧ w'.cell? ⟨gb904, 13, none⟩ = some (.int .i64 t900) ∧ w'.cell? ⟨gb904, 14, none⟩ = some (.int .i64 t901) ∧ w'.cell? ⟨gb904, 15, none⟩ = some (.int .i64 t902) ∧ w'.cell? ⟨gb931, 0, none⟩ = some (.int .i64 t923) ∧ w'.cell? ⟨gb931, 1, none⟩ = some (.string t924) ∧ w'.cell? ⟨gb931, 2, none⟩ = some (.int .i64 t925) ∧ w'.cell? ⟨gb931, 3, none⟩ = some (.int .i64 t926) ∧ w'.cell? ⟨gb931, 4, none⟩ = some (.int .i64 t927) ∧ w'.cell? ⟨gb931, 5, none⟩ = some (.string t928) ∧ w'.cell? ⟨gb931, 6, none⟩ = some (.int .i64 t929) ∧ w'.cell? ⟨gb931, 7, none⟩ = some (.int .i64 t930) ∧ w'.cell? ⟨gb939, 0, none⟩ = some (.int .i64 t932) ∧ w'.cell? ⟨gb939, 1, none⟩ = some (.string t933) ∧ w'.cell? ⟨gb939, 2, none⟩ = some (.int .i64 t934) ∧ w'.cell? ⟨gb939, 3, none⟩ = some (.int .i64 t935) ∧ w'.cell? ⟨gb939, 4, none⟩ = some (.int .i64 t936) ∧ w'.cell? ⟨gb939, 5, none⟩ = some (.int .i64 t937) ∧ w'.cell? ⟨gb939, 6, none⟩ = some (.int .i64 t938) ∧ w'.cell? ⟨gb862, 0, none⟩ = some (.int .i64 t846) ∧ w'.cell? ⟨gb862, 1, none⟩ = some (.int .i64 t847) ∧ w'.cell? ⟨gb862, 2, none⟩ = some (.string t848) ∧ w'.cell? ⟨gb862, 3, none⟩ = some (.int .i64 t849) ∧ w'.cell? ⟨gb862, 4, none⟩ = some (.int .i64 t850) ∧ w'.cell? ⟨gb862, 5, none⟩ = some (.int .i64 t851) ∧ w'.cell? ⟨gb862, 6, none⟩ = some (.string t852) ∧ w'.cell? ⟨gb862, 7, none⟩ = some (.int .i64 t853) ∧ w'.cell? ⟨gb862, 8, none⟩ = some (.int .i64 t854) ∧ w'.cell? ⟨gb862, 9, none⟩ = some (.int .i64 t855) ∧ w'.cell? ⟨gb862, 10, none⟩ = some (.string t856) ∧ w'.cell? ⟨gb862, 11, none⟩ = some (.int .i64 t857) ∧ w'.cell? ⟨gb862, 12, none⟩ = some (.int .i64 t858) ∧ w'.cell? ⟨gb862, 13, none⟩ = some (.int .i64 t859) ∧ w'.cell? ⟨gb862, 14, none⟩ = some (.int .i64 t860) ∧ w'.cell? ⟨gb862, 15, none⟩ = some (.int .i64 t861)) (ds := []) (rl [0,34]) (by kernel_rfl) rfl rfl (cw16 BK904.out (cw8 BK931.out (cw7 BK939.out (cz16 BK862.out)))) (fun hHeld => ?_); refine with_tabW laws_FnItems.tab11 laws_FnItems.bits11 (fun HT_ HW_ => ?_)
  generalize w57.drew = w84 at HO865 HO886 BK862 BK883 BK904 BK922 BK931 BK939 HB hHeld ⊢
  refine pz_ (i := 0) (N := some 41) HT_ (rl [1,33]) rfl rfl ?_
  refine pz_ (i := 1) (N := some 42) HT_ (rl [2,32]) rfl rfl ?_
  refine pz_ (i := 2) (N := some 43) HT_ (rl [3,31]) rfl rfl ?_
  refine pz_ (i := 3) (N := some 44) HT_ (rl [4,30]) rfl rfl ?_
  refine pz_ (i := 4) (N := some 45) HT_ (rl [5,29]) rfl rfl ?_
  refine pz_ (i := 5) (N := some 46) HT_ (rl [6,28]) rfl rfl ?_
  refine pz_ (i := 8) (N := some 49) HT_ (rl [6,2,1,25]) rfl rfl ?_
  refine tz_ (i := 6) (N := some 47) HT_ HW_ (rl [7,1,1,25]) rfl rfl hHeld ?_ (hy := fun w' ⟨s0, s1, s2, s3, s4, s5, s6, s7, s8, s9, s10, s11, s12, s13, s14, s15, _, _, _, _, _, _, _, _, _, _, _, _, _, _, _, _, _, _, _, _, _, _, _, _, _, _, _, _, _, _, _⟩ => ldr16 s0 s1 s2 s3 s4 s5 s6 s7 s8 s9 s10 s11 s12 s13 s14 s15)
  refine one_ (i := 7) (N := some 48) (rl [9,25]) rfl rfl (one_of HT_.out (by kernel_rfl)) (by decide) (fun K hK => ?_)
  refine goes_ Try.func9 (by kernel_rfl) rfl #[.agg #[.int .i64 t887, .int .i64 t888, .string t889, .int .i64 t890, .int .i64 t891, .int .i64 t892, .string t893, .int .i64 t894, .int .i64 t895, .int .i64 t896, .string t897, .int .i64 t898, .int .i64 t899, .int .i64 t900, .int .i64 t901, .int .i64 t902]] (by rfl) rfl rfl la_ ?_
  with_reducible refine (impl_PutItem.calls k t887 t888 t889 t890 t891 t892 t893 t894 t895 t896 t897 t898 t899 t900 t901 t902 t940 _ A61.out).mono ?_
  rintro e w85 ⟨v941, rfl, ho0, hb⟩
  refine ⟨_, rfl, ?_⟩
  have HO942 := am_ (Kd.R_lower (Kd.R_new' (Kd.R_new' ho0 (Kd.R_lt (qR HO865))) (Kd.R_lt (qR HO886))) (below_size (qB HB)))
  replace HO865 := eA_ HO865 ho0 hb
  replace HO886 := eA_ HO886 ho0 hb
  replace BK862 := bK_ BK862 hb
  replace BK883 := bK_ BK883 hb
  replace BK904 := bK_ BK904 hb
  replace BK922 := bK_ BK922 hb
  replace BK931 := bK_ BK931 hb
  replace BK939 := bK_ BK939 hb
  replace HB := bS_ HB hb
  (try clear hb ho0)
  obtain ⟨Ao86, co86, eo86⟩ := Kd.R_slice HO942.out
  (first | subst eo86 | (injection eo86 with f1_ f2_ f3_; have f4_ := f1_.symm; have f5_ := f3_.symm; clear f1_ f2_ f3_; subst f4_; subst f5_))
  refine hK.out _ _ (cw16 BK904.out (cw8 BK931.out (cw7 BK939.out (cz16 BK862.out)))) (fun hHeld => ?_)
  clear hK K
  refine norm_ (a' := ?_) ?_ ?_
  rotate_left
  ·
   show Act.put _ (some 48) _ = _
   exact ap_
  refine one_ (i := 9) (N := some 50) (rl [10,24]) rfl rfl (one_of HT_.out (by kernel_rfl)) (by decide) (fun K hK => ?_)
  refine goes_ Try.func15 (by kernel_rfl) rfl #[.slice Ao86 t940.length co86, .slice Ao27 t884.length co27] (by rfl) rfl rfl la_ ?_
  with_reducible refine (laws_same.calls _ _ t940 _ _ t884 true _ ?side1 ?side2 ?side3 ?side4 A62.out).mono ?_
  (case side1 => exact qC ((Kd.R_reads' HO942.out).2.2))
  (case side2 => exact (Kd.R_reads' HO942.out).2.1)
  (case side3 => exact qC ((Kd.R_reads' HO886.out).2.2))
  (case side4 => exact (Kd.R_reads' HO886.out).2.1)
  rintro e w' ⟨rfl, ⟨nd, rfl⟩⟩
  refine ⟨_, rfl, ?_⟩
  refine hK.out _ _ (cw16 BK904.out (cw8 BK931.out (cw7 BK939.out (cz16 BK862.out)))) (fun hHeld => ?_)
  clear hK K
  refine norm_ (a' := ?_) ?_ ?_
  rotate_left
  ·
   show Act.put _ (some 50) _ = _
   exact ap_
  refine pz_ (i := 10) (N := some 51) HT_ (rl [11,23]) rfl rfl ?_
  refine pz_ (i := 11) (N := some 52) HT_ (rl [12,22]) rfl rfl ?_
  refine pz_ (i := 12) (N := some 53) HT_ (rl [13,21]) rfl rfl ?_
  refine pz_ (i := 13) (N := some 54) HT_ (rl [14,20]) rfl rfl ?_
  refine tz_ (i := 14) (N := some 55) HT_ HW_ (rl [15,19]) rfl rfl hHeld ?_ (hy := fun w' ⟨_, _, _, _, _, _, _, _, _, _, _, _, _, _, _, _, s16, s17, s18, s19, s20, s21, s22, s23, _, _, _, _, _, _, _, _, _, _, _, _, _, _, _, _, _, _, _, _, _, _, _⟩ => ldr8 s16 s17 s18 s19 s20 s21 s22 s23)
  refine tz_ (i := 16) (N := some 57) HT_ HW_ (rl [15,1,1,17]) rfl rfl hHeld ?_ (hy := fun w' ⟨_, _, _, _, _, _, _, _, _, _, _, _, _, _, _, _, s16, s17, s18, s19, s20, s21, s22, s23, _, _, _, _, _, _, _, _, _, _, _, _, _, _, _, _, _, _, _, _, _, _, _⟩ => ldr8 s16 s17 s18 s19 s20 s21 s22 s23)
  refine one_ (i := 15) (N := some 56) (rl [17,17]) rfl rfl (one_of HT_.out (by kernel_rfl)) (by decide) (fun K hK => ?_)
  refine goes_ Try.func16 (by kernel_rfl) rfl #[.agg #[.int .i64 t923, .string t924, .int .i64 t925, .int .i64 t926, .int .i64 t927, .string t928, .int .i64 t929, .int .i64 t930]] (by rfl) rfl rfl la_ ?_
  with_reducible refine (impl_AskerOk.calls k t923 t924 t925 t926 t927 t928 t929 t930 t944 _ A64.out).mono ?_
  rintro e w87 ⟨rfl, hb⟩
  refine ⟨_, rfl, ?_⟩
  replace HO865 := rB_ HO865 hb
  replace HO886 := rB_ HO886 hb
  replace HO942 := rB_ HO942 hb
  replace BK862 := bK_ BK862 hb
  replace BK883 := bK_ BK883 hb
  replace BK904 := bK_ BK904 hb
  replace BK922 := bK_ BK922 hb
  replace BK931 := bK_ BK931 hb
  replace BK939 := bK_ BK939 hb
  replace HB := bS_ HB hb
  (try clear hb)
  refine hK.out _ _ (cw16 BK904.out (cw8 BK931.out (cw7 BK939.out (cz16 BK862.out)))) (fun hHeld => ?_)
  clear hK K
  refine norm_ (a' := ?_) ?_ ?_
  rotate_left
  ·
   show Act.put _ (some 56) _ = _
   exact ap_
  refine one_ (i := 17) (N := some 58) (rl [18,16]) rfl rfl (one_of HT_.out (by kernel_rfl)) (by decide) (fun K hK => ?_)
  refine goes_ Try.func17 (by kernel_rfl) rfl #[.agg #[.int .i64 t923, .string t924, .int .i64 t925, .int .i64 t926, .int .i64 t927, .string t928, .int .i64 t929, .int .i64 t930]] (by rfl) rfl rfl la_ ?_
  with_reducible refine (spec_AskerOk.calls k t923 t924 t925 t926 t927 t928 t929 t930 t945 _ A65.out).mono ?_
  rintro e w88 ⟨rfl, hb⟩
  refine ⟨_, rfl, ?_⟩
  replace HO865 := rB_ HO865 hb
  replace HO886 := rB_ HO886 hb
  replace HO942 := rB_ HO942 hb
  replace BK862 := bK_ BK862 hb
  replace BK883 := bK_ BK883 hb
  replace BK904 := bK_ BK904 hb
  replace BK922 := bK_ BK922 hb
  replace BK931 := bK_ BK931 hb
  replace BK939 := bK_ BK939 hb
  replace HB := bS_ HB hb
  (try clear hb)
  refine hK.out _ _ (cw16 BK904.out (cw8 BK931.out (cw7 BK939.out (cz16 BK862.out)))) (fun hHeld => ?_)
  clear hK K
  refine norm_ (a' := ?_) ?_ ?_
  rotate_left
  ·
   show Act.put _ (some 58) _ = _
   exact ap_
  refine pz_ (i := 18) (N := some 59) HT_ (rl [19,15]) rfl rfl ?_
  refine pz_ (i := 19) (N := some 60) HT_ (rl [20,14]) rfl rfl ?_
  refine pz_ (i := 20) (N := some 61) HT_ (rl [21,13]) rfl rfl ?_
  refine tz_ (i := 21) (N := some 62) HT_ HW_ (rl [22,12]) rfl rfl hHeld ?_ (hy := fun w' ⟨_, _, _, _, _, _, _, _, _, _, _, _, _, _, _, _, _, _, _, _, _, _, _, _, s24, s25, s26, s27, s28, s29, s30, _, _, _, _, _, _, _, _, _, _, _, _, _, _, _, _⟩ => ldr7 s24 s25 s26 s27 s28 s29 s30)
  refine tz_ (i := 23) (N := some 64) HT_ HW_ (rl [22,1,1,10]) rfl rfl hHeld ?_ (hy := fun w' ⟨_, _, _, _, _, _, _, _, _, _, _, _, _, _, _, _, _, _, _, _, _, _, _, _, s24, s25, s26, s27, s28, s29, s30, _, _, _, _, _, _, _, _, _, _, _, _, _, _, _, _⟩ => ldr7 s24 s25 s26 s27 s28 s29 s30)
  refine one_ (i := 22) (N := some 63) (rl [24,10]) rfl rfl (one_of HT_.out (by kernel_rfl)) (by decide) (fun K hK => ?_)
  refine goes_ Try.func18 (by kernel_rfl) rfl #[.agg #[.int .i64 t932, .string t933, .int .i64 t934, .int .i64 t935, .int .i64 t936, .int .i64 t937, .int .i64 t938]] (by rfl) rfl rfl la_ ?_
  with_reducible refine (impl_LineOk.calls k t932 t933 t934 t935 t936 t937 t938 t946 _ A72.out).mono ?_
  rintro e w89 ⟨rfl, hb⟩
  refine ⟨_, rfl, ?_⟩
  replace HO865 := rB_ HO865 hb
  replace HO886 := rB_ HO886 hb
  replace HO942 := rB_ HO942 hb
  replace BK862 := bK_ BK862 hb
  replace BK883 := bK_ BK883 hb
  replace BK904 := bK_ BK904 hb
  replace BK922 := bK_ BK922 hb
  replace BK931 := bK_ BK931 hb
  replace BK939 := bK_ BK939 hb
  replace HB := bS_ HB hb
  (try clear hb)
  refine hK.out _ _ (cw16 BK904.out (cw8 BK931.out (cw7 BK939.out (cz16 BK862.out)))) (fun hHeld => ?_)
  clear hK K
  refine norm_ (a' := ?_) ?_ ?_
  rotate_left
  ·
   show Act.put _ (some 63) _ = _
   exact ap_
  refine one_ (i := 24) (N := some 65) (rl [25,9]) rfl rfl (one_of HT_.out (by kernel_rfl)) (by decide) (fun K hK => ?_)
  refine goes_ Try.func19 (by kernel_rfl) rfl #[.agg #[.int .i64 t932, .string t933, .int .i64 t934, .int .i64 t935, .int .i64 t936, .int .i64 t937, .int .i64 t938]] (by rfl) rfl rfl la_ ?_
  with_reducible refine (spec_LineOk.calls k t932 t933 t934 t935 t936 t937 t938 t947 _ A73.out).mono ?_
  rintro e w90 ⟨rfl, hb⟩
  refine ⟨_, rfl, ?_⟩
  replace HO865 := rB_ HO865 hb
  replace HO886 := rB_ HO886 hb
  replace HO942 := rB_ HO942 hb
  replace BK862 := bK_ BK862 hb
  replace BK883 := bK_ BK883 hb
  replace BK904 := bK_ BK904 hb
  replace BK922 := bK_ BK922 hb
  replace BK931 := bK_ BK931 hb
  replace BK939 := bK_ BK939 hb
  replace HB := bS_ HB hb
  (try clear hb)
  refine hK.out _ _ (cw16 BK904.out (cw8 BK931.out (cw7 BK939.out (cz16 BK862.out)))) (fun hHeld => ?_)
  clear hK K
  refine norm_ (a' := ?_) ?_ ?_
  rotate_left
  ·
   show Act.put _ (some 65) _ = _
   exact ap_
  refine pz_ (i := 25) (N := some 66) HT_ (rl [26,8]) rfl rfl ?_
  refine pz_ (i := 26) (N := some 67) HT_ (rl [27,7]) rfl rfl ?_
  refine pz_ (i := 27) (N := some 68) HT_ (rl [28,6]) rfl rfl ?_
  refine pz_ (i := 28) (N := some 69) HT_ (rl [29,5]) rfl rfl ?_
  refine tz_ (i := 29) (N := some 70) HT_ HW_ (rl [30,4]) rfl rfl hHeld ?_ (hy := fun w' ⟨_, _, _, _, _, _, _, _, _, _, _, _, _, _, _, _, _, _, _, _, _, _, _, _, _, _, _, _, _, _, _, s31, s32, s33, s34, s35, s36, s37, s38, s39, s40, s41, s42, s43, s44, s45, s46⟩ => ldr16 s31 s32 s33 s34 s35 s36 s37 s38 s39 s40 s41 s42 s43 s44 s45 s46)
  refine one_ (i := 30) (N := some 71) (rl [31,3]) rfl rfl (one_of HT_.out (by kernel_rfl)) (by decide) (fun K hK => ?_)
  refine goes_ Try.func20 (by kernel_rfl) rfl #[.agg #[.int .i64 t846, .int .i64 t847, .string t848, .int .i64 t849, .int .i64 t850, .int .i64 t851, .string t852, .int .i64 t853, .int .i64 t854, .int .i64 t855, .string t856, .int .i64 t857, .int .i64 t858, .int .i64 t859, .int .i64 t860, .int .i64 t861]] (by rfl) rfl rfl la_ ?_
  with_reducible refine (spec_PutItem.calls k t846 t847 t848 t849 t850 t851 t852 t853 t854 t855 t856 t857 t858 t859 t860 t861 t948 _ A82.out).mono ?_
  rintro e w91 ⟨v949, rfl, ho0, hb⟩
  refine ⟨_, rfl, ?_⟩
  have HO950 := am_ (Kd.R_lower (Kd.R_new' (Kd.R_new' (Kd.R_new' ho0 (Kd.R_lt (qR HO865))) (Kd.R_lt (qR HO886))) (Kd.R_lt (qR HO942))) (below_size (qB HB)))
  replace HO865 := eA_ HO865 ho0 hb
  replace HO886 := eA_ HO886 ho0 hb
  replace HO942 := eA_ HO942 ho0 hb
  replace BK862 := bK_ BK862 hb
  replace BK883 := bK_ BK883 hb
  replace BK904 := bK_ BK904 hb
  replace BK922 := bK_ BK922 hb
  replace BK931 := bK_ BK931 hb
  replace BK939 := bK_ BK939 hb
  replace HB := bS_ HB hb
  (try clear hb ho0)
  obtain ⟨Ao92, co92, eo92⟩ := Kd.R_slice HO950.out
  (first | subst eo92 | (injection eo92 with f1_ f2_ f3_; have f4_ := f1_.symm; have f5_ := f3_.symm; clear f1_ f2_ f3_; subst f4_; subst f5_))
  refine hK.out _ _ (cw16 BK904.out (cw8 BK931.out (cw7 BK939.out (cz16 BK862.out)))) (fun hHeld => ?_)
  clear hK K
  refine norm_ (a' := ?_) ?_ ?_
  rotate_left
  ·
   show Act.put _ (some 71) _ = _
   exact ap_
  refine one_ (i := 31) (N := some 72) (rl [32,2]) rfl rfl (one_of HT_.out (by kernel_rfl)) (by decide) (fun K hK => ?_)
  refine goes_ Try.func15 (by kernel_rfl) rfl #[.slice Ao20 t863.length co20, .slice Ao92 t948.length co92] (by rfl) rfl rfl la_ ?_
  with_reducible refine (laws_same.calls _ _ t863 _ _ t948 t951 _ ?side1 ?side2 ?side3 ?side4 A83.out).mono ?_
  (case side1 => exact qC ((Kd.R_reads' HO865.out).2.2))
  (case side2 => exact (Kd.R_reads' HO865.out).2.1)
  (case side3 => exact qC ((Kd.R_reads' HO950.out).2.2))
  (case side4 => exact (Kd.R_reads' HO950.out).2.1)
  rintro e w' ⟨rfl, ⟨nd, rfl⟩⟩
  refine ⟨_, rfl, ?_⟩
  refine hK.out _ _ (cw16 BK904.out (cw8 BK931.out (cw7 BK939.out (cz16 BK862.out)))) (fun hHeld => ?_)
  clear hK K
  refine norm_ (a' := ?_) ?_ ?_
  rotate_left
  ·
   show Act.put _ (some 72) _ = _
   exact ap_
  refine pz_ (i := 32) (N := some 73) HT_ (rl [33,1]) rfl rfl ?_
  refine pz_ (i := 33) (N := some 74) HT_ (rl [34]) rfl rfl ?_
  refine done_ (done_of HT_.out (by kernel_rfl)) ?_
  try go_wp2_with ((with_reducible refine gate_ld rfl ?_); first | refine ld_ ?_ | fail)
  go_meet
  case rel => exact ⟨_, (!t951), eqq_, H', ⟨by first | omega | exact Nat.le_refl _⟩, ⟨by (with_reducible repeat (first | apply Kd.R_alloc | apply Kd.R_drewN | apply Kd.R_drew)); exact Kd.R_mono HO865.out (fun _ hk => trivial)⟩, ⟨qK BK862⟩, ⟨qK BK883⟩, ⟨qK BK904⟩, ⟨qK BK922⟩, ⟨qK BK931⟩, ⟨qK BK939⟩, ⟨qB HB⟩⟩
 case rest =>
  clear HC13
  try clear c1
  try clear c2
  try clear p2
  try clear c10
  try clear c15
  try clear c16
  try clear c17
  try clear c18
  try clear c19
  try clear c20
  try clear c104
  try clear c104b0
  try clear c104b1
  try clear c104b2
  obtain ⟨kq, x74_12, rfl, HA, HJ12, HO_4, BK862, BK883, BK904, BK922, BK931, BK939, HB⟩ := hcut
  cases kq with
  | zero => exact absurd HA.out (by simp [laws_FnItems.j0])
  | succ kj12 =>
   have H := HA.out
   clear HA
   simp only [laws_FnItems.j0] at H
   by_cases c119 : x74_12 = true
   ·
    subst c119
    rw [if_pos rfl] at H
    exact absurd (hr_.out ▸ H) (by simp)
   replace c119 := Bool.eq_false_iff.mpr c119
   subst c119
   rw [if_neg (show ¬ (false = true) by decide)] at H
   have HC120 := Aside0.mk H
   clear H
   go_upto_region 13 with ((with_reducible refine gate_ld rfl ?_); first | refine ld_ ?_ | fail)
   go_cut [2] (fun v2 wc => ∃ (kq : Nat) (x2_119 : Bool), v2 = .bool x2_119 ∧ Aside0 (laws_FnItems.j1 kq x2_119 = some r) ∧ Aside0 (kq ≤ kj12) ∧ Aside0 (wc.heap[gb862]? = some (.cells #[.int .i64 t846, .int .i64 t847, .string t848, .int .i64 t849, .int .i64 t850, .int .i64 t851, .string t852, .int .i64 t853, .int .i64 t854, .int .i64 t855, .string t856, .int .i64 t857, .int .i64 t858, .int .i64 t859, .int .i64 t860, .int .i64 t861] 29 (0, 0))) ∧ Aside0 (wc.heap[gb883]? = some (.cells #[.int .i64 t866, .int .i64 t867, .string t868, .int .i64 t869, .int .i64 t870, .int .i64 t871, .string t872, .int .i64 t873, .int .i64 t874, .int .i64 t875, .string t876, .int .i64 t877, .int .i64 t878, .int .i64 t879, .int .i64 t880, .int .i64 t881] 29 (0, 0))) ∧ Aside0 (wc.heap[gb904]? = some (.cells #[.int .i64 t887, .int .i64 t888, .string t889, .int .i64 t890, .int .i64 t891, .int .i64 t892, .string t893, .int .i64 t894, .int .i64 t895, .int .i64 t896, .string t897, .int .i64 t898, .int .i64 t899, .int .i64 t900, .int .i64 t901, .int .i64 t902] 29 (0, 0))) ∧ Aside0 (wc.heap[gb922]? = some (.cells #[.int .i64 t905, .int .i64 t906, .string t907, .int .i64 t908, .int .i64 t909, .int .i64 t910, .string t911, .int .i64 t912, .int .i64 t913, .int .i64 t914, .string t915, .int .i64 t916, .int .i64 t917, .int .i64 t918, .int .i64 t919, .int .i64 t920] 29 (0, 0))) ∧ Aside0 (wc.heap[gb931]? = some (.cells #[.int .i64 t923, .string t924, .int .i64 t925, .int .i64 t926, .int .i64 t927, .string t928, .int .i64 t929, .int .i64 t930] 25 (0, 0))) ∧ Aside0 (wc.heap[gb939]? = some (.cells #[.int .i64 t932, .string t933, .int .i64 t934, .int .i64 t935, .int .i64 t936, .int .i64 t937, .int .i64 t938] 27 (0, 0))) ∧ Aside0 (Below w.heap.size w wc))
   case first =>
    have H := HC120.out
    clear HC120
    by_cases c121 : (t863.length : Int) = 0
    ·
     rw [if_pos c121] at H
     have c121b0 : ((t863.length : Int) == 0) = true := beq_iff_eq.mpr c121
     have c121b1 : ((t863.length : Int) != 0) = false := bne_eq_false_iff_eq.mpr c121
     clear c121
     (first | rw [c121b0] | rw [c121b1] | (simp only [i64_w, i32_w]; rw [c121b0]) | skip)
     by_cases c122 : t882 = true
     rotate_left
     ·
      replace c122 := Bool.eq_false_iff.mpr c122
      subst c122
      rw [if_neg (show ¬ (false = true) by decide)] at H
      have H' := Aside0.mk H
      clear H
      go_wp2_with ((with_reducible refine gate_ld rfl ?_); first | refine ld_ ?_ | fail)
      go_meet
      case rel => exact ⟨_, (true), eqq_, H', ⟨by have := HJ12.out; first | omega | exact Nat.le_refl _⟩, ⟨qK BK862⟩, ⟨qK BK883⟩, ⟨qK BK904⟩, ⟨qK BK922⟩, ⟨qK BK931⟩, ⟨qK BK939⟩, ⟨qB HB⟩⟩
     subst c122
     rw [if_pos rfl] at H
     by_cases c123 : (t863.length : Int) > 0
     rotate_left
     ·
      rw [if_neg c123] at H
      have c123b0 : decide (0 < (t863.length : Int)) = false := decide_eq_false c123
      have c123b1 : decide (0 < t863.length) = false := decide_eq_false (by omega)
      clear c123
      have H' := Aside0.mk H
      clear H
      go_wp2_with ((with_reducible refine gate_ld rfl ?_); first | refine ld_ ?_ | fail)
      go_meet
      case rel => exact ⟨_, (false), eqq_, H', ⟨by have := HJ12.out; first | omega | exact Nat.le_refl _⟩, ⟨qK BK862⟩, ⟨qK BK883⟩, ⟨qK BK904⟩, ⟨qK BK922⟩, ⟨qK BK931⟩, ⟨qK BK939⟩, ⟨qB HB⟩⟩
     rw [if_pos c123] at H
     have c123b0 : decide (0 < (t863.length : Int)) = true := decide_eq_true c123
     have c123b1 : decide (0 < t863.length) = true := decide_eq_true (by omega)
     clear c123
     by_cases c124 : (t866 == t846 && ((t867 == t847 && (t868.toList == t848.toList && (t869 == t849 && (t870 == t850 && (t871 == t851 && (t872.toList == t852.toList && (t873 == t853 && (t874 == t854)))))))) && ((t875 == t855 && (t876.toList == t856.toList && (t877 == t857 && (t878 == t858 && (t879 == t859 && (t880 == t860 && (t881 == t861)))))))))) = true
     ·
      rw [if_pos c124] at H
      have c124b0 : (t866 == t846 && ((t867 == t847 && (t868.toList == t848.toList && (t869 == t849 && (t870 == t850 && (t871 == t851 && (t872.toList == t852.toList && (t873 == t853 && (t874 == t854)))))))) && ((t875 == t855 && (t876.toList == t856.toList && (t877 == t857 && (t878 == t858 && (t879 == t859 && (t880 == t860 && (t881 == t861)))))))))) = true := c124
      (try (have c124b1 : decide (t866 = t846 && ((t867 == t847 && (t868.toList == t848.toList && (t869 == t849 && (t870 == t850 && (t871 == t851 && (t872.toList == t852.toList && (t873 == t853 && (t874 == t854)))))))) && ((t875 == t855 && (t876.toList == t856.toList && (t877 == t857 && (t878 == t858 && (t879 == t859 && (t880 == t860 && (t881 == t861)))))))))) = true := by simpa using c124))
      (try (have c124b2 : (t866 == t846 && ((t867 == t847 && (t868.toList == t848.toList && (t869 == t849 && (t870 == t850 && (t871 == t851 && (t872.toList == t852.toList && (t873 == t853 && (t874 == t854)))))))) && ((t875 == t855 && (t876.toList == t856.toList && (t877 == t857 && (t878 == t858 && (t879 == t859 && (t880 == t860 && (t881 == t861)))))))))) = true := by simpa using c124))
      clear c124
      have H' := Aside0.mk H
      clear H
      have hnb125 := NB883_862.out
      have hnc125 := NB862_883.out
      have hnb126 := NB883_904.out
      have hnc126 := NB904_883.out
      have hnb127 := NB883_922.out
      have hnc127 := NB922_883.out
      have hnb128 := NB883_931.out
      have hnc128 := NB931_883.out
      have hnb129 := NB883_939.out
      have hnc129 := NB939_883.out
      (try clear zK883)
      have zK883 := cz16 BK883.out
      have hnb131 := NB862_904.out
      have hnc131 := NB904_862.out
      have hnb132 := NB862_922.out
      have hnc132 := NB922_862.out
      have hnb133 := NB862_931.out
      have hnc133 := NB931_862.out
      have hnb134 := NB862_939.out
      have hnc134 := NB939_862.out
      (try clear zK862)
      have zK862 := cz16 BK862.out
      go_wp2_with ((with_reducible refine gate_ld rfl ?_); first | refine ld_ ?_ | fail)
      go_meet
      case rel => exact ⟨_, (decide ((t863.length : Int) < 140)), eqq_, H', ⟨by have := HJ12.out; first | omega | exact Nat.le_refl _⟩, ⟨qK BK862⟩, ⟨qK BK883⟩, ⟨qK BK904⟩, ⟨qK BK922⟩, ⟨qK BK931⟩, ⟨qK BK939⟩, ⟨qB HB⟩⟩
     rw [if_neg c124] at H
     have c124b0 : (t866 == t846 && ((t867 == t847 && (t868.toList == t848.toList && (t869 == t849 && (t870 == t850 && (t871 == t851 && (t872.toList == t852.toList && (t873 == t853 && (t874 == t854)))))))) && ((t875 == t855 && (t876.toList == t856.toList && (t877 == t857 && (t878 == t858 && (t879 == t859 && (t880 == t860 && (t881 == t861)))))))))) = false := by simpa using c124
     (try (have c124b1 : decide (t866 = t846 && ((t867 == t847 && (t868.toList == t848.toList && (t869 == t849 && (t870 == t850 && (t871 == t851 && (t872.toList == t852.toList && (t873 == t853 && (t874 == t854)))))))) && ((t875 == t855 && (t876.toList == t856.toList && (t877 == t857 && (t878 == t858 && (t879 == t859 && (t880 == t860 && (t881 == t861)))))))))) = false := by simpa using c124))
     (try (have c124b2 : (t866 == t846 && ((t867 == t847 && (t868.toList == t848.toList && (t869 == t849 && (t870 == t850 && (t871 == t851 && (t872.toList == t852.toList && (t873 == t853 && (t874 == t854)))))))) && ((t875 == t855 && (t876.toList == t856.toList && (t877 == t857 && (t878 == t858 && (t879 == t859 && (t880 == t860 && (t881 == t861)))))))))) = false := by simpa using c124))
     (try (have c124b3 : ¬ (t866 = t846 && ((t867 == t847 && (t868.toList == t848.toList && (t869 == t849 && (t870 == t850 && (t871 == t851 && (t872.toList == t852.toList && (t873 == t853 && (t874 == t854)))))))) && ((t875 == t855 && (t876.toList == t856.toList && (t877 == t857 && (t878 == t858 && (t879 == t859 && (t880 == t860 && (t881 == t861)))))))))) := by simpa using c124))
     clear c124
     have H' := Aside0.mk H
     clear H
     have hnb136 := NB883_862.out
     have hnc136 := NB862_883.out
     have hnb137 := NB883_904.out
     have hnc137 := NB904_883.out
     have hnb138 := NB883_922.out
     have hnc138 := NB922_883.out
     have hnb139 := NB883_931.out
     have hnc139 := NB931_883.out
     have hnb140 := NB883_939.out
     have hnc140 := NB939_883.out
     (try clear zK883)
     have zK883 := cz16 BK883.out
     have hnb142 := NB862_904.out
     have hnc142 := NB904_862.out
     have hnb143 := NB862_922.out
     have hnc143 := NB922_862.out
     have hnb144 := NB862_931.out
     have hnc144 := NB931_862.out
     have hnb145 := NB862_939.out
     have hnc145 := NB939_862.out
     (try clear zK862)
     have zK862 := cz16 BK862.out
     go_wp2_with ((with_reducible refine gate_ld rfl ?_); first | refine ld_ ?_ | fail)
     go_meet
     case rel => exact ⟨_, (false), eqq_, H', ⟨by have := HJ12.out; first | omega | exact Nat.le_refl _⟩, ⟨qK BK862⟩, ⟨qK BK883⟩, ⟨qK BK904⟩, ⟨qK BK922⟩, ⟨qK BK931⟩, ⟨qK BK939⟩, ⟨qB HB⟩⟩
    rw [if_neg c121] at H
    have c121b0 : ((t863.length : Int) == 0) = false := beq_eq_false_iff_ne.mpr c121
    have c121b1 : ((t863.length : Int) != 0) = true := bne_iff_ne.mpr c121
    have c121b2 : ¬ (t863 = []) := fun h_ => c121 (by rw [h_]; rfl)
    (first | rw [c121b0] | rw [c121b1] | rw [c121b2] | (simp only [i64_w, i32_w]; rw [c121b0]) | skip)
    by_cases c147 : (t863.length : Int) > 0
    rotate_left
    ·
     rw [if_neg c147] at H
     have c147b0 : decide (0 < (t863.length : Int)) = false := decide_eq_false c147
     have c147b1 : decide (0 < t863.length) = false := decide_eq_false (by omega)
     clear c147
     have H' := Aside0.mk H
     clear H
     go_wp2_with ((with_reducible refine gate_ld rfl ?_); first | refine ld_ ?_ | fail)
     go_meet
     case rel => exact ⟨_, (false), eqq_, H', ⟨by have := HJ12.out; first | omega | exact Nat.le_refl _⟩, ⟨qK BK862⟩, ⟨qK BK883⟩, ⟨qK BK904⟩, ⟨qK BK922⟩, ⟨qK BK931⟩, ⟨qK BK939⟩, ⟨qB HB⟩⟩
    rw [if_pos c147] at H
    have c147b0 : decide (0 < (t863.length : Int)) = true := decide_eq_true c147
    have c147b1 : decide (0 < t863.length) = true := decide_eq_true (by omega)
    clear c147
    by_cases c148 : t882 = true
    rotate_left
    ·
     replace c148 := Bool.eq_false_iff.mpr c148
     subst c148
     rw [if_neg (show ¬ (false = true) by decide)] at H
     have H' := Aside0.mk H
     clear H
     go_wp2_with ((with_reducible refine gate_ld rfl ?_); first | refine ld_ ?_ | fail)
     go_meet
     case rel => exact ⟨_, (false), eqq_, H', ⟨by have := HJ12.out; first | omega | exact Nat.le_refl _⟩, ⟨qK BK862⟩, ⟨qK BK883⟩, ⟨qK BK904⟩, ⟨qK BK922⟩, ⟨qK BK931⟩, ⟨qK BK939⟩, ⟨qB HB⟩⟩
    subst c148
    rw [if_pos rfl] at H
    by_cases c149 : (t866 == t846 && ((t867 == t847 && (t868.toList == t848.toList && (t869 == t849 && (t870 == t850 && (t871 == t851 && (t872.toList == t852.toList && (t873 == t853 && (t874 == t854)))))))) && ((t875 == t855 && (t876.toList == t856.toList && (t877 == t857 && (t878 == t858 && (t879 == t859 && (t880 == t860 && (t881 == t861)))))))))) = true
    ·
     rw [if_pos c149] at H
     have c149b0 : (t866 == t846 && ((t867 == t847 && (t868.toList == t848.toList && (t869 == t849 && (t870 == t850 && (t871 == t851 && (t872.toList == t852.toList && (t873 == t853 && (t874 == t854)))))))) && ((t875 == t855 && (t876.toList == t856.toList && (t877 == t857 && (t878 == t858 && (t879 == t859 && (t880 == t860 && (t881 == t861)))))))))) = true := c149
     (try (have c149b1 : decide (t866 = t846 && ((t867 == t847 && (t868.toList == t848.toList && (t869 == t849 && (t870 == t850 && (t871 == t851 && (t872.toList == t852.toList && (t873 == t853 && (t874 == t854)))))))) && ((t875 == t855 && (t876.toList == t856.toList && (t877 == t857 && (t878 == t858 && (t879 == t859 && (t880 == t860 && (t881 == t861)))))))))) = true := by simpa using c149))
     (try (have c149b2 : (t866 == t846 && ((t867 == t847 && (t868.toList == t848.toList && (t869 == t849 && (t870 == t850 && (t871 == t851 && (t872.toList == t852.toList && (t873 == t853 && (t874 == t854)))))))) && ((t875 == t855 && (t876.toList == t856.toList && (t877 == t857 && (t878 == t858 && (t879 == t859 && (t880 == t860 && (t881 == t861)))))))))) = true := by simpa using c149))
     clear c149
     have H' := Aside0.mk H
     clear H
     have hnb150 := NB883_862.out
     have hnc150 := NB862_883.out
     have hnb151 := NB883_904.out
     have hnc151 := NB904_883.out
     have hnb152 := NB883_922.out
     have hnc152 := NB922_883.out
     have hnb153 := NB883_931.out
     have hnc153 := NB931_883.out
     have hnb154 := NB883_939.out
     have hnc154 := NB939_883.out
     (try clear zK883)
     have zK883 := cz16 BK883.out
     have hnb156 := NB862_904.out
     have hnc156 := NB904_862.out
     have hnb157 := NB862_922.out
     have hnc157 := NB922_862.out
     have hnb158 := NB862_931.out
     have hnc158 := NB931_862.out
     have hnb159 := NB862_939.out
     have hnc159 := NB939_862.out
     (try clear zK862)
     have zK862 := cz16 BK862.out
     go_wp2_with ((with_reducible refine gate_ld rfl ?_); first | refine ld_ ?_ | fail)
     go_meet
     case rel => exact ⟨_, (decide ((t863.length : Int) < 140)), eqq_, H', ⟨by have := HJ12.out; first | omega | exact Nat.le_refl _⟩, ⟨qK BK862⟩, ⟨qK BK883⟩, ⟨qK BK904⟩, ⟨qK BK922⟩, ⟨qK BK931⟩, ⟨qK BK939⟩, ⟨qB HB⟩⟩
    rw [if_neg c149] at H
    have c149b0 : (t866 == t846 && ((t867 == t847 && (t868.toList == t848.toList && (t869 == t849 && (t870 == t850 && (t871 == t851 && (t872.toList == t852.toList && (t873 == t853 && (t874 == t854)))))))) && ((t875 == t855 && (t876.toList == t856.toList && (t877 == t857 && (t878 == t858 && (t879 == t859 && (t880 == t860 && (t881 == t861)))))))))) = false := by simpa using c149
    (try (have c149b1 : decide (t866 = t846 && ((t867 == t847 && (t868.toList == t848.toList && (t869 == t849 && (t870 == t850 && (t871 == t851 && (t872.toList == t852.toList && (t873 == t853 && (t874 == t854)))))))) && ((t875 == t855 && (t876.toList == t856.toList && (t877 == t857 && (t878 == t858 && (t879 == t859 && (t880 == t860 && (t881 == t861)))))))))) = false := by simpa using c149))
    (try (have c149b2 : (t866 == t846 && ((t867 == t847 && (t868.toList == t848.toList && (t869 == t849 && (t870 == t850 && (t871 == t851 && (t872.toList == t852.toList && (t873 == t853 && (t874 == t854)))))))) && ((t875 == t855 && (t876.toList == t856.toList && (t877 == t857 && (t878 == t858 && (t879 == t859 && (t880 == t860 && (t881 == t861)))))))))) = false := by simpa using c149))
    (try (have c149b3 : ¬ (t866 = t846 && ((t867 == t847 && (t868.toList == t848.toList && (t869 == t849 && (t870 == t850 && (t871 == t851 && (t872.toList == t852.toList && (t873 == t853 && (t874 == t854)))))))) && ((t875 == t855 && (t876.toList == t856.toList && (t877 == t857 && (t878 == t858 && (t879 == t859 && (t880 == t860 && (t881 == t861)))))))))) := by simpa using c149))
    clear c149
    have H' := Aside0.mk H
    clear H
    have hnb161 := NB883_862.out
    have hnc161 := NB862_883.out
    have hnb162 := NB883_904.out
    have hnc162 := NB904_883.out
    have hnb163 := NB883_922.out
    have hnc163 := NB922_883.out
    have hnb164 := NB883_931.out
    have hnc164 := NB931_883.out
    have hnb165 := NB883_939.out
    have hnc165 := NB939_883.out
    (try clear zK883)
    have zK883 := cz16 BK883.out
    have hnb167 := NB862_904.out
    have hnc167 := NB904_862.out
    have hnb168 := NB862_922.out
    have hnc168 := NB922_862.out
    have hnb169 := NB862_931.out
    have hnc169 := NB931_862.out
    have hnb170 := NB862_939.out
    have hnc170 := NB939_862.out
    (try clear zK862)
    have zK862 := cz16 BK862.out
    go_wp2_with ((with_reducible refine gate_ld rfl ?_); first | refine ld_ ?_ | fail)
    go_meet
    case rel => exact ⟨_, (false), eqq_, H', ⟨by have := HJ12.out; first | omega | exact Nat.le_refl _⟩, ⟨qK BK862⟩, ⟨qK BK883⟩, ⟨qK BK904⟩, ⟨qK BK922⟩, ⟨qK BK931⟩, ⟨qK BK939⟩, ⟨qB HB⟩⟩
   case rest =>
    clear HC120
    try clear c1
    try clear c2
    try clear p2
    try clear c10
    try clear c11
    try clear c12
    try clear c13
    try clear c14
    try clear c15
    try clear c16
    try clear c17
    try clear c18
    try clear c19
    try clear c20
    try clear c104
    try clear c104b0
    try clear c104b1
    try clear c104b2
    try clear c119
    try clear c121
    try clear c121b0
    try clear c121b1
    try clear c121b2
    try clear c122
    try clear c123
    try clear c123b0
    try clear c123b1
    try clear c124
    try clear c124b0
    try clear c124b1
    try clear c124b2
    try clear c125
    try clear c126
    try clear c127
    try clear c128
    try clear c129
    try clear c131
    try clear c132
    try clear c133
    try clear c134
    try clear c136
    try clear c137
    try clear c138
    try clear c139
    try clear c140
    try clear c142
    try clear c143
    try clear c144
    try clear c145
    try clear c147
    try clear c147b0
    try clear c147b1
    try clear c148
    try clear c149
    try clear c149b0
    try clear c149b1
    try clear c149b2
    try clear c150
    try clear c151
    try clear c152
    try clear c153
    try clear c154
    try clear c156
    try clear c157
    try clear c158
    try clear c159
    try clear c161
    try clear c162
    try clear c163
    try clear c164
    try clear c165
    try clear c167
    try clear c168
    try clear c169
    try clear c170
    (try clear zK883)
    (try clear zK862)
    (try clear zK883)
    (try clear zK862)
    (try clear zK883)
    (try clear zK862)
    (try clear zK883)
    (try clear zK862)
    (try clear f130)
    (try clear f135)
    (try clear f141)
    (try clear f146)
    (try clear f155)
    (try clear f160)
    (try clear f166)
    (try clear f171)
    try clear p2
    obtain ⟨kq, x2_119, rfl, HA, HJ119, BK862, BK883, BK904, BK922, BK931, BK939, HB⟩ := hcut
    cases kq with
    | zero => exact absurd HA.out (by simp [laws_FnItems.j1])
    | succ kj119 =>
     have H := HA.out
     clear HA
     simp only [laws_FnItems.j1] at H
     obtain rfl := Option.some.inj H
     go_wp2_with ((with_reducible refine gate_ld rfl ?_); first | refine ld_ ?_ | fail)
     go_ret
     exact ⟨er_, qB HB⟩

/-- THE ONE PURE STATEMENT of laws_FnItems: yours. -/
def laws_FnItems.Pure : Prop := ∀ (l0 : List Int), l0.length ≤ maxLen → l0.length * 1 ≤ 140737488351232 → (∀ x ∈ l0, (Lit.int .u8 x).wf = true) → ∃ k, laws_FnItems.f k l0 = some true
theorem laws_FnItems.walk (P : laws_FnItems.Pure) (a0 : Option Addr) (len0 cap0 : Nat) (z0 : List Int) (w : World) (w0 : (a0 = none ∧ len0 = 0 ∧ cap0 = 0 ∧ z0 = []) ∨ ∃ x, a0 = some x ∧ len0 ≤ cap0 ∧ cap0 ≤ maxLen ∧ z0.length = cap0 ∧ (∀ i, i < z0.length → w.cell? (x.add i) = some (.int .u8 (z0.getD i 0))) ∧ ∀ n ∈ z0, (Lit.int .u8 n).wf = true) (y0 : len0 * 1 ≤ 140737488351232) :
  Calls Try.prog 3 #[.slice a0 len0 cap0] w fun e w' => e = .returned (.bool true) ∧ Below w.heap.size w w' := by
 obtain ⟨l0, rfl, hr0, hm0, hw0, hc0⟩ := ReadsInt.ofRowC w0
 obtain ⟨k, h⟩ := P l0 hm0 y0 hw0
 refine (laws_FnItems.calls k _ _ l0 true w (Kd.C_of_reads (d := (0 : Int)) (h1 := fun _ => rfl) hr0) hc0 ⟨rfl⟩ h).mono ?_
 rintro e w' ⟨rfl, hd⟩
 exact ⟨rfl, hd⟩

end Go.Proofs.Ytiffahfpfgnjnaa.PFnItems
