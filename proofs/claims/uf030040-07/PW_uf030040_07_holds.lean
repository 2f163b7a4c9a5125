import PyProof.Rows.All
import Flt.Ops
import Imp.Common
import KE.KDictList
import KE.KDictOf
import KE.KDictSum
import KE.KEqDict
import KE.KIsNot
import KE.KRevIter
import Open.Claim
import Open.Head
import Open.Line
import Open.Row
import OpenK.KCall
import OpenK.KCls
import OpenK.KDescr
import OpenK.KEqL
import OpenK.KFacts
import OpenK.KGet
import OpenK.KMake
import OpenK.KMore
import OpenK.KOwn
import OpenK.KWalk
import OpenK.Peek
import OpenK.TopRead
import Wide.Claim
import Wide.Data
import Wide.Lay
import Wide.Loose
import Wide.OneHead
import Wide.Pins
import Wide.Row
import PySem.Challenge.RW_uf030040_07

set_option maxRecDepth 100000
set_option autoImplicit false
set_option Elab.async false
set_option linter.all false
set_option maxHeartbeats 4000000
set_option compiler.extract_closed false

namespace Fl
open PySem PySem.W PyProof.Rows
abbrev PP : Program := PySem.Challenge.pw_uf030040_07
noncomputable def stAt (i : Nat) : Stmt := (PP.main.body[i]?).getD default
noncomputable def inAt (i j : Nat) : Stmt := match stAt i with
  | .ClassDef _ _ _ b _ _ _ _ _ _ _ => (b[j]?).getD default
  | _ => default
noncomputable def fnD (st : Stmt) (qual : Str) (dV kV doc pm : Value) (an : Option Addr) (cd ct : Value) : FuncData := match st with
  | .FunctionDef n a b _ _ _ sc _ _ _ => { name := n, qualname := qual, params := a, body := .stmts b, scope := sc, globals := mainGlobals, closure := [], defaults := dV, kwdefaults := kV, doc := doc, pyModule := pm, annotations := an, code := cd, closureTuple := ct, builtins := builtinsNs }
  | _ => default
noncomputable def kA : List Addr := [2, 3, 15, 17, 18, 20, 21, 22, 24, 25, 27, 28, 29, 36, 37, 38, 39, 42, 49, 50, 51, 54, 61, 62, 63, 66, 73, 74, 75, 78, 85, 86, 87, 90, 97, 98, 99, 102, 109, 110, 111, 114, 121, 122, 123, 126, 128, 129, 131, 132, 140, 142, 143, 145, 146, 147, 149, 150, 152, 153, 154, 156, 157, 159, 160, 161, 164, 165, 166, 168, 169, 171, 172, 173, 175, 176, 178, 179, 180, 182, 183, 185, 186, 187, 188, 189, 190, 191, 201, 203, 204, 206, 207, 208, 210, 211, 213, 214, 215, 217, 218, 220, 221, 222, 224, 225, 227, 228, 229, 232, 233, 234, 236, 237, 239, 240, 241, 243, 244, 246, 247, 248, 249, 250, 251, 252, 255, 257, 258, 260, 261, 262, 264, 265, 267, 268, 269, 272, 273, 274, 276, 277, 279, 280, 281, 284, 285, 286, 289, 290, 291, 294, 295, 296, 298, 299, 301, 302, 303, 305, 306, 308, 309, 310, 312, 313, 315, 316, 317, 320, 321, 322, 324, 325, 327, 328, 329, 331, 332, 334, 335, 336, 338, 339, 341, 342, 343, 346, 347, 348, 350, 351, 353, 354]
noncomputable def kH (P : Params) : Frag := (nat_lit 2, ⟨.none, none, (.dict #[] 0), #[]⟩) :: (nat_lit 3, ⟨(.type "dict"), none, (.dict #[⟨PyData.keyHash P (Str.ofString "__name__"), (.str (Str.ofString "__name__") 165), (.str (Str.ofString "law_uf030040_07") 525)⟩, ⟨PyData.keyHash P (Str.ofString "__doc__"), (.str (Str.ofString "__doc__") 166), .none⟩, ⟨PyData.keyHash P (Str.ofString "__package__"), (.str (Str.ofString "__package__") 167), .none⟩, ⟨PyData.keyHash P (Str.ofString "__loader__"), (.str (Str.ofString "__loader__") 168), (.builtin "__main__.__loader__#opaque")⟩, ⟨PyData.keyHash P (Str.ofString "__spec__"), (.str (Str.ofString "__spec__") 169), .none⟩, ⟨PyData.keyHash P (Str.ofString "__annotations__"), (.str (Str.ofString "__annotations__") 170), (.ref 6)⟩, ⟨PyData.keyHash P (Str.ofString "__builtins__"), (.str (Str.ofString "__builtins__") 171), (.ref 4)⟩, ⟨PyData.keyHash P (Str.ofString "__file__"), (.str (Str.ofString "__file__") 173), (.str (Str.ofString "/claim/cut.py") 172)⟩, ⟨PyData.keyHash P (Str.ofString "__cached__"), (.str (Str.ofString "__cached__") 174), .none⟩, ⟨PyData.keyHash P (Str.ofString "_wall"), (.str (Str.ofString "_wall") 193), (.ref 21)⟩, ⟨PyData.keyHash P (Str.ofString "turned"), (.str (Str.ofString "turned") 206), (.ref 28)⟩, ⟨PyData.keyHash P (Str.ofString "FloorError"), (.str (Str.ofString "FloorError") 226), (.ref 38)⟩, ⟨PyData.keyHash P (Str.ofString "TooLarge"), (.str (Str.ofString "TooLarge") 242), (.ref 51)⟩, ⟨PyData.keyHash P (Str.ofString "Ragged"), (.str (Str.ofString "Ragged") 258), (.ref 63)⟩, ⟨PyData.keyHash P (Str.ofString "StrangeSign"), (.str (Str.ofString "StrangeSign") 274), (.ref 75)⟩, ⟨PyData.keyHash P (Str.ofString "NoCell"), (.str (Str.ofString "NoCell") 290), (.ref 87)⟩, ⟨PyData.keyHash P (Str.ofString "NotBeside"), (.str (Str.ofString "NotBeside") 306), (.ref 99)⟩, ⟨PyData.keyHash P (Str.ofString "Covered"), (.str (Str.ofString "Covered") 322), (.ref 111)⟩, ⟨PyData.keyHash P (Str.ofString "Uncovered"), (.str (Str.ofString "Uncovered") 338), (.ref 123)⟩, ⟨PyData.keyHash P (Str.ofString "MOST"), (.str (Str.ofString "MOST") 342), (.int 12 341)⟩, ⟨PyData.keyHash P (Str.ofString "SIGNS"), (.str (Str.ofString "SIGNS") 344), (.str (Str.ofString ".-|#") 343)⟩, ⟨PyData.keyHash P (Str.ofString "ALONG"), (.str (Str.ofString "ALONG") 346), (.str (Str.ofString ".-") 345)⟩, ⟨PyData.keyHash P (Str.ofString "ACROSS"), (.str (Str.ofString "ACROSS") 348), (.str (Str.ofString ".|") 347)⟩, ⟨PyData.keyHash P (Str.ofString "look_at_sizes"), (.str (Str.ofString "look_at_sizes") 356), (.ref 132)⟩, ⟨PyData.keyHash P (Str.ofString "Floor"), (.str (Str.ofString "Floor") 442), (.ref 189)⟩, ⟨PyData.keyHash P (Str.ofString "Laying"), (.str (Str.ofString "Laying") 524), (.ref 250)⟩, ⟨PyData.keyHash P (Str.ofString "_law_cell_at"), (.str (Str.ofString "_law_cell_at") 534), (.ref 261)⟩, ⟨PyData.keyHash P (Str.ofString "_law_number"), (.str (Str.ofString "_law_number") 543), (.ref 268)⟩, ⟨PyData.keyHash P (Str.ofString "_law_rows"), (.str (Str.ofString "_law_rows") 549), (.ref 273)⟩, ⟨PyData.keyHash P (Str.ofString "_law_may"), (.str (Str.ofString "_law_may") 561), (.ref 280)⟩, ⟨PyData.keyHash P (Str.ofString "_law_cells"), (.str (Str.ofString "_law_cells") 567), (.ref 285)⟩, ⟨PyData.keyHash P (Str.ofString "_law_beside"), (.str (Str.ofString "_law_beside") 573), (.ref 290)⟩, ⟨PyData.keyHash P (Str.ofString "_law_over"), (.str (Str.ofString "_law_over") 579), (.ref 295)⟩, ⟨PyData.keyHash P (Str.ofString "_law_made"), (.str (Str.ofString "_law_made") 589), (.ref 302)⟩, ⟨PyData.keyHash P (Str.ofString "_law_whole"), (.str (Str.ofString "_law_whole") 596), (.ref 309)⟩, ⟨PyData.keyHash P (Str.ofString "_law_lies"), (.str (Str.ofString "_law_lies") 605), (.ref 316)⟩, ⟨PyData.keyHash P (Str.ofString "_law_gone"), (.str (Str.ofString "_law_gone") 611), (.ref 321)⟩, ⟨PyData.keyHash P (Str.ofString "_law_covered"), (.str (Str.ofString "_law_covered") 619), (.ref 328)⟩, ⟨PyData.keyHash P (Str.ofString "_law_put_again"), (.str (Str.ofString "_law_put_again") 627), (.ref 335)⟩, ⟨PyData.keyHash P (Str.ofString "_law_bare_taken"), (.str (Str.ofString "_law_bare_taken") 641), (.ref 342)⟩, ⟨PyData.keyHash P (Str.ofString "_law_told_well"), (.str (Str.ofString "_law_told_well") 647), (.ref 347)⟩, ⟨PyData.keyHash P (Str.ofString "law"), (.str (Str.ofString "law") 668), (.ref 354)⟩] 42), #[]⟩) :: (nat_lit 15, ⟨(.type "tuple"), none, (.seq #[] 0), #[]⟩) :: (nat_lit 17, ⟨(.type "tuple"), none, (.seq #[(.str (Str.ofString "k") 190)] 0), #[]⟩) :: (nat_lit 18, ⟨(.type "tuple"), none, (.seq #[] 0), #[]⟩) :: (nat_lit 20, ⟨(.type "code"), none, (.fields #[(.str (Str.ofString "_wall") 187), (.str (Str.ofString "_wall") 188), (.str (Str.ofString "/claim/cut.py") 189), (.int 1 0), (.int 1 0), (.int 0 0), (.int 0 0), (.int 3 0), (.ref 15), (.bool true), (.int 181 0), (.ref 16), .none, (.ref 17), (.ref 18), (.ref 19), (.int 191 0), (.int 1 0), (.str (Str.ofString "/claim/cut.py") 192)]), #[]⟩) :: (nat_lit 21, ⟨(.type "function"), none, (.func (fnD (stAt 0) (Str.ofString "_wall") .none .none .none (.str (Str.ofString "__main__") 164) none (.ref 20) .none)), #[]⟩) :: (nat_lit 22, ⟨(.type "tuple"), none, (.seq #[] 0), #[]⟩) :: (nat_lit 24, ⟨(.type "tuple"), none, (.seq #[(.str (Str.ofString "laying") 199), (.str (Str.ofString "way") 200), (.str (Str.ofString "made") 201), (.str (Str.ofString "cell") 202), (.str (Str.ofString "k") 203)] 0), #[]⟩) :: (nat_lit 25, ⟨(.type "tuple"), none, (.seq #[] 0), #[]⟩) :: (nat_lit 27, ⟨(.type "code"), none, (.fields #[(.str (Str.ofString "turned") 196), (.str (Str.ofString "turned") 197), (.str (Str.ofString "/claim/cut.py") 198), (.int 5 0), (.int 2 0), (.int 0 0), (.int 0 0), (.int 3 0), (.ref 22), (.bool true), (.int 181 0), (.ref 23), .none, (.ref 24), (.ref 25), (.ref 26), (.int 204 0), (.int 5 0), (.str (Str.ofString "/claim/cut.py") 205)]), #[]⟩) :: (nat_lit 28, ⟨(.type "function"), none, (.func (fnD (stAt 2) (Str.ofString "turned") .none .none .none (.str (Str.ofString "slabfloor.ways") 194) none (.ref 27) .none)), #[]⟩) :: (nat_lit 29, ⟨(.type "tuple"), none, (.seq #[(.type "ValueError")] 0), #[]⟩) :: (nat_lit 36, ⟨(.type "tuple"), none, (.seq #[] 0), #[]⟩) :: (nat_lit 37, ⟨(.type "dict"), none, (.dict #[⟨PyData.keyHash P (Str.ofString "__module__"), (.str (Str.ofString "__module__") 216), (.str (Str.ofString "slabfloor.errors") 207)⟩, ⟨PyData.keyHash P (Str.ofString "__firstlineno__"), (.str (Str.ofString "__firstlineno__") 220), (.int 14 219)⟩, ⟨PyData.keyHash P (Str.ofString "__static_attributes__"), (.str (Str.ofString "__static_attributes__") 221), (.ref 36)⟩, ⟨PyData.keyHash P (Str.ofString "__weakref__"), (.str (Str.ofString "__weakref__") 223), (.ref 39)⟩, ⟨PyData.keyHash P (Str.ofString "__doc__"), (.str (Str.ofString "__doc__") 224), .none⟩] 3), #[]⟩) :: (nat_lit 38, ⟨(.type "type"), none, (.cls { name := (Str.ofString "FloorError"), bases := [(.type "ValueError")], mro := [(.ref 38), (.type "ValueError"), (.type "Exception"), (.type "BaseException"), (.type "object")], ns := 37, qualname := (Str.ofString "FloorError"), hasDict := true, slotNames := [], subclasses := [(.ref 51), (.ref 63), (.ref 75), (.ref 87), (.ref 99), (.ref 111), (.ref 123)], abstract := false, collection := none, hasDel := false }), #[(some (.ref 29)), none, (some (.str (Str.ofString "FloorError") 209)), (some (.str (Str.ofString "FloorError") 217)), (some (.builtin "ValueError.__new__")), (some (.bool true))]⟩) :: (nat_lit 39, ⟨(.type "getset_descriptor"), none, (.fields #[(.str (Str.ofString "__weakref__") 222), (.ref 38), (.builtin "ExceptionGroup.__weakref__"), .none]), #[]⟩) :: (nat_lit 42, ⟨(.type "tuple"), none, (.seq #[(.ref 38)] 0), #[]⟩) :: (nat_lit 49, ⟨(.type "tuple"), none, (.seq #[] 0), #[]⟩) :: (nat_lit 50, ⟨(.type "dict"), none, (.dict #[⟨PyData.keyHash P (Str.ofString "__module__"), (.str (Str.ofString "__module__") 234), (.str (Str.ofString "slabfloor.errors") 207)⟩, ⟨PyData.keyHash P (Str.ofString "__firstlineno__"), (.str (Str.ofString "__firstlineno__") 238), (.int 16 237)⟩, ⟨PyData.keyHash P (Str.ofString "__static_attributes__"), (.str (Str.ofString "__static_attributes__") 239), (.ref 49)⟩, ⟨PyData.keyHash P (Str.ofString "__doc__"), (.str (Str.ofString "__doc__") 240), .none⟩] 2), #[]⟩) :: (nat_lit 51, ⟨(.type "type"), none, (.cls { name := (Str.ofString "TooLarge"), bases := [(.ref 38)], mro := [(.ref 51), (.ref 38), (.type "ValueError"), (.type "Exception"), (.type "BaseException"), (.type "object")], ns := 50, qualname := (Str.ofString "TooLarge"), hasDict := true, slotNames := [], subclasses := [], abstract := false, collection := none, hasDel := false }), #[(some (.ref 42)), none, (some (.str (Str.ofString "TooLarge") 227)), (some (.str (Str.ofString "TooLarge") 235)), (some (.builtin "ValueError.__new__")), (some (.bool true))]⟩) :: (nat_lit 54, ⟨(.type "tuple"), none, (.seq #[(.ref 38)] 0), #[]⟩) :: (nat_lit 61, ⟨(.type "tuple"), none, (.seq #[] 0), #[]⟩) :: (nat_lit 62, ⟨(.type "dict"), none, (.dict #[⟨PyData.keyHash P (Str.ofString "__module__"), (.str (Str.ofString "__module__") 250), (.str (Str.ofString "slabfloor.errors") 207)⟩, ⟨PyData.keyHash P (Str.ofString "__firstlineno__"), (.str (Str.ofString "__firstlineno__") 254), (.int 18 253)⟩, ⟨PyData.keyHash P (Str.ofString "__static_attributes__"), (.str (Str.ofString "__static_attributes__") 255), (.ref 61)⟩, ⟨PyData.keyHash P (Str.ofString "__doc__"), (.str (Str.ofString "__doc__") 256), .none⟩] 2), #[]⟩) :: (nat_lit 63, ⟨(.type "type"), none, (.cls { name := (Str.ofString "Ragged"), bases := [(.ref 38)], mro := [(.ref 63), (.ref 38), (.type "ValueError"), (.type "Exception"), (.type "BaseException"), (.type "object")], ns := 62, qualname := (Str.ofString "Ragged"), hasDict := true, slotNames := [], subclasses := [], abstract := false, collection := none, hasDel := false }), #[(some (.ref 54)), none, (some (.str (Str.ofString "Ragged") 243)), (some (.str (Str.ofString "Ragged") 251)), (some (.builtin "ValueError.__new__")), (some (.bool true))]⟩) :: (nat_lit 66, ⟨(.type "tuple"), none, (.seq #[(.ref 38)] 0), #[]⟩) :: (nat_lit 73, ⟨(.type "tuple"), none, (.seq #[] 0), #[]⟩) :: (nat_lit 74, ⟨(.type "dict"), none, (.dict #[⟨PyData.keyHash P (Str.ofString "__module__"), (.str (Str.ofString "__module__") 266), (.str (Str.ofString "slabfloor.errors") 207)⟩, ⟨PyData.keyHash P (Str.ofString "__firstlineno__"), (.str (Str.ofString "__firstlineno__") 270), (.int 20 269)⟩, ⟨PyData.keyHash P (Str.ofString "__static_attributes__"), (.str (Str.ofString "__static_attributes__") 271), (.ref 73)⟩, ⟨PyData.keyHash P (Str.ofString "__doc__"), (.str (Str.ofString "__doc__") 272), .none⟩] 2), #[]⟩) :: (nat_lit 75, ⟨(.type "type"), none, (.cls { name := (Str.ofString "StrangeSign"), bases := [(.ref 38)], mro := [(.ref 75), (.ref 38), (.type "ValueError"), (.type "Exception"), (.type "BaseException"), (.type "object")], ns := 74, qualname := (Str.ofString "StrangeSign"), hasDict := true, slotNames := [], subclasses := [], abstract := false, collection := none, hasDel := false }), #[(some (.ref 66)), none, (some (.str (Str.ofString "StrangeSign") 259)), (some (.str (Str.ofString "StrangeSign") 267)), (some (.builtin "ValueError.__new__")), (some (.bool true))]⟩) :: (nat_lit 78, ⟨(.type "tuple"), none, (.seq #[(.ref 38)] 0), #[]⟩) :: (nat_lit 85, ⟨(.type "tuple"), none, (.seq #[] 0), #[]⟩) :: (nat_lit 86, ⟨(.type "dict"), none, (.dict #[⟨PyData.keyHash P (Str.ofString "__module__"), (.str (Str.ofString "__module__") 282), (.str (Str.ofString "slabfloor.errors") 207)⟩, ⟨PyData.keyHash P (Str.ofString "__firstlineno__"), (.str (Str.ofString "__firstlineno__") 286), (.int 22 285)⟩, ⟨PyData.keyHash P (Str.ofString "__static_attributes__"), (.str (Str.ofString "__static_attributes__") 287), (.ref 85)⟩, ⟨PyData.keyHash P (Str.ofString "__doc__"), (.str (Str.ofString "__doc__") 288), .none⟩] 2), #[]⟩) :: (nat_lit 87, ⟨(.type "type"), none, (.cls { name := (Str.ofString "NoCell"), bases := [(.ref 38)], mro := [(.ref 87), (.ref 38), (.type "ValueError"), (.type "Exception"), (.type "BaseException"), (.type "object")], ns := 86, qualname := (Str.ofString "NoCell"), hasDict := true, slotNames := [], subclasses := [], abstract := false, collection := none, hasDel := false }), #[(some (.ref 78)), none, (some (.str (Str.ofString "NoCell") 275)), (some (.str (Str.ofString "NoCell") 283)), (some (.builtin "ValueError.__new__")), (some (.bool true))]⟩) :: (nat_lit 90, ⟨(.type "tuple"), none, (.seq #[(.ref 38)] 0), #[]⟩) :: (nat_lit 97, ⟨(.type "tuple"), none, (.seq #[] 0), #[]⟩) :: (nat_lit 98, ⟨(.type "dict"), none, (.dict #[⟨PyData.keyHash P (Str.ofString "__module__"), (.str (Str.ofString "__module__") 298), (.str (Str.ofString "slabfloor.errors") 207)⟩, ⟨PyData.keyHash P (Str.ofString "__firstlineno__"), (.str (Str.ofString "__firstlineno__") 302), (.int 24 301)⟩, ⟨PyData.keyHash P (Str.ofString "__static_attributes__"), (.str (Str.ofString "__static_attributes__") 303), (.ref 97)⟩, ⟨PyData.keyHash P (Str.ofString "__doc__"), (.str (Str.ofString "__doc__") 304), .none⟩] 2), #[]⟩) :: (nat_lit 99, ⟨(.type "type"), none, (.cls { name := (Str.ofString "NotBeside"), bases := [(.ref 38)], mro := [(.ref 99), (.ref 38), (.type "ValueError"), (.type "Exception"), (.type "BaseException"), (.type "object")], ns := 98, qualname := (Str.ofString "NotBeside"), hasDict := true, slotNames := [], subclasses := [], abstract := false, collection := none, hasDel := false }), #[(some (.ref 90)), none, (some (.str (Str.ofString "NotBeside") 291)), (some (.str (Str.ofString "NotBeside") 299)), (some (.builtin "ValueError.__new__")), (some (.bool true))]⟩) :: (nat_lit 102, ⟨(.type "tuple"), none, (.seq #[(.ref 38)] 0), #[]⟩) :: (nat_lit 109, ⟨(.type "tuple"), none, (.seq #[] 0), #[]⟩) :: (nat_lit 110, ⟨(.type "dict"), none, (.dict #[⟨PyData.keyHash P (Str.ofString "__module__"), (.str (Str.ofString "__module__") 314), (.str (Str.ofString "slabfloor.errors") 207)⟩, ⟨PyData.keyHash P (Str.ofString "__firstlineno__"), (.str (Str.ofString "__firstlineno__") 318), (.int 26 317)⟩, ⟨PyData.keyHash P (Str.ofString "__static_attributes__"), (.str (Str.ofString "__static_attributes__") 319), (.ref 109)⟩, ⟨PyData.keyHash P (Str.ofString "__doc__"), (.str (Str.ofString "__doc__") 320), .none⟩] 2), #[]⟩) :: (nat_lit 111, ⟨(.type "type"), none, (.cls { name := (Str.ofString "Covered"), bases := [(.ref 38)], mro := [(.ref 111), (.ref 38), (.type "ValueError"), (.type "Exception"), (.type "BaseException"), (.type "object")], ns := 110, qualname := (Str.ofString "Covered"), hasDict := true, slotNames := [], subclasses := [], abstract := false, collection := none, hasDel := false }), #[(some (.ref 102)), none, (some (.str (Str.ofString "Covered") 307)), (some (.str (Str.ofString "Covered") 315)), (some (.builtin "ValueError.__new__")), (some (.bool true))]⟩) :: (nat_lit 114, ⟨(.type "tuple"), none, (.seq #[(.ref 38)] 0), #[]⟩) :: (nat_lit 121, ⟨(.type "tuple"), none, (.seq #[] 0), #[]⟩) :: (nat_lit 122, ⟨(.type "dict"), none, (.dict #[⟨PyData.keyHash P (Str.ofString "__module__"), (.str (Str.ofString "__module__") 330), (.str (Str.ofString "slabfloor.errors") 207)⟩, ⟨PyData.keyHash P (Str.ofString "__firstlineno__"), (.str (Str.ofString "__firstlineno__") 334), (.int 28 333)⟩, ⟨PyData.keyHash P (Str.ofString "__static_attributes__"), (.str (Str.ofString "__static_attributes__") 335), (.ref 121)⟩, ⟨PyData.keyHash P (Str.ofString "__doc__"), (.str (Str.ofString "__doc__") 336), .none⟩] 2), #[]⟩) :: (nat_lit 123, ⟨(.type "type"), none, (.cls { name := (Str.ofString "Uncovered"), bases := [(.ref 38)], mro := [(.ref 123), (.ref 38), (.type "ValueError"), (.type "Exception"), (.type "BaseException"), (.type "object")], ns := 122, qualname := (Str.ofString "Uncovered"), hasDict := true, slotNames := [], subclasses := [], abstract := false, collection := none, hasDel := false }), #[(some (.ref 114)), none, (some (.str (Str.ofString "Uncovered") 323)), (some (.str (Str.ofString "Uncovered") 331)), (some (.builtin "ValueError.__new__")), (some (.bool true))]⟩) :: (nat_lit 126, ⟨(.type "tuple"), none, (.seq #[] 0), #[]⟩) :: (nat_lit 128, ⟨(.type "tuple"), none, (.seq #[(.str (Str.ofString "rows") 352), (.str (Str.ofString "row") 353)] 0), #[]⟩) :: (nat_lit 129, ⟨(.type "tuple"), none, (.seq #[] 0), #[]⟩) :: (nat_lit 131, ⟨(.type "code"), none, (.fields #[(.str (Str.ofString "look_at_sizes") 349), (.str (Str.ofString "look_at_sizes") 350), (.str (Str.ofString "/claim/cut.py") 351), (.int 35 0), (.int 1 0), (.int 0 0), (.int 0 0), (.int 3 0), (.ref 126), (.bool true), (.int 181 0), (.ref 127), .none, (.ref 128), (.ref 129), (.ref 130), (.int 354 0), (.int 35 0), (.str (Str.ofString "/claim/cut.py") 355)]), #[]⟩) :: (nat_lit 132, ⟨(.type "function"), none, (.func (fnD (stAt 17) (Str.ofString "look_at_sizes") .none .none .none (.str (Str.ofString "slabfloor.floor") 339) none (.ref 131) .none)), #[]⟩) :: (nat_lit 140, ⟨(.type "tuple"), none, (.seq #[] 0), #[]⟩) :: (nat_lit 142, ⟨(.type "tuple"), none, (.seq #[(.str (Str.ofString "self") 372), (.str (Str.ofString "rows") 373), (.str (Str.ofString "row") 374), (.str (Str.ofString "sign") 375)] 0), #[]⟩) :: (nat_lit 143, ⟨(.type "tuple"), none, (.seq #[] 0), #[]⟩) :: (nat_lit 145, ⟨(.type "code"), none, (.fields #[(.str (Str.ofString "__init__") 369), (.str (Str.ofString "Floor.__init__") 370), (.str (Str.ofString "/claim/cut.py") 371), (.int 46 0), (.int 2 0), (.int 0 0), (.int 0 0), (.int 3 0), (.ref 140), (.bool true), (.int 181 0), (.ref 141), .none, (.ref 142), (.ref 143), (.ref 144), (.int 376 0), (.int 46 0), (.str (Str.ofString "/claim/cut.py") 377)]), #[]⟩) :: (nat_lit 146, ⟨(.type "function"), none, (.func (fnD (inAt 18 0) (Str.ofString "Floor.__init__") .none .none .none (.str (Str.ofString "slabfloor.floor") 339) none (.ref 145) .none)), #[]⟩) :: (nat_lit 147, ⟨(.type "tuple"), none, (.seq #[] 0), #[]⟩) :: (nat_lit 149, ⟨(.type "tuple"), none, (.seq #[(.str (Str.ofString "self") 382), (.str (Str.ofString "place") 383)] 0), #[]⟩) :: (nat_lit 150, ⟨(.type "tuple"), none, (.seq #[] 0), #[]⟩) :: (nat_lit 152, ⟨(.type "code"), none, (.fields #[(.str (Str.ofString "sign_of") 379), (.str (Str.ofString "Floor.sign_of") 380), (.str (Str.ofString "/claim/cut.py") 381), (.int 58 0), (.int 2 0), (.int 0 0), (.int 0 0), (.int 3 0), (.ref 147), (.bool true), (.int 181 0), (.ref 148), .none, (.ref 149), (.ref 150), (.ref 151), (.int 384 0), (.int 58 0), (.str (Str.ofString "/claim/cut.py") 385)]), #[]⟩) :: (nat_lit 153, ⟨(.type "function"), none, (.func (fnD (inAt 18 1) (Str.ofString "Floor.sign_of") .none .none .none (.str (Str.ofString "slabfloor.floor") 339) none (.ref 152) .none)), #[]⟩) :: (nat_lit 154, ⟨(.type "tuple"), none, (.seq #[] 0), #[]⟩) :: (nat_lit 156, ⟨(.type "tuple"), none, (.seq #[(.str (Str.ofString "self") 390), (.str (Str.ofString "place") 391)] 0), #[]⟩) :: (nat_lit 157, ⟨(.type "tuple"), none, (.seq #[] 0), #[]⟩) :: (nat_lit 159, ⟨(.type "code"), none, (.fields #[(.str (Str.ofString "has") 387), (.str (Str.ofString "Floor.has") 388), (.str (Str.ofString "/claim/cut.py") 389), (.int 61 0), (.int 2 0), (.int 0 0), (.int 0 0), (.int 3 0), (.ref 154), (.bool true), (.int 181 0), (.ref 155), .none, (.ref 156), (.ref 157), (.ref 158), (.int 392 0), (.int 61 0), (.str (Str.ofString "/claim/cut.py") 393)]), #[]⟩) :: (nat_lit 160, ⟨(.type "function"), none, (.func (fnD (inAt 18 2) (Str.ofString "Floor.has") .none .none .none (.str (Str.ofString "slabfloor.floor") 339) none (.ref 159) .none)), #[]⟩) :: (nat_lit 161, ⟨(.type "tuple"), none, (.seq #[] 0), #[]⟩) :: (nat_lit 164, ⟨(.type "code"), none, (.fields #[(.str (Str.ofString "cells") 395), (.str (Str.ofString "Floor.cells") 396), (.str (Str.ofString "/claim/cut.py") 397), (.int 66 0), (.int 1 0), (.int 0 0), (.int 0 0), (.int 3 0), (.ref 161), (.bool true), (.int 181 0), (.ref 162), .none, .none, .none, (.ref 163), (.int 398 0), (.int 66 0), (.str (Str.ofString "/claim/cut.py") 399)]), #[]⟩) :: (nat_lit 165, ⟨(.type "function"), none, (.func (fnD (inAt 18 3) (Str.ofString "Floor.cells") .none .none .none (.str (Str.ofString "slabfloor.floor") 339) none (.ref 164) .none)), #[]⟩) :: (nat_lit 166, ⟨(.type "tuple"), none, (.seq #[] 0), #[]⟩) :: (nat_lit 168, ⟨(.type "tuple"), none, (.seq #[(.str (Str.ofString "self") 404), (.str (Str.ofString "place") 405)] 0), #[]⟩) :: (nat_lit 169, ⟨(.type "tuple"), none, (.seq #[] 0), #[]⟩) :: (nat_lit 171, ⟨(.type "code"), none, (.fields #[(.str (Str.ofString "shade") 401), (.str (Str.ofString "Floor.shade") 402), (.str (Str.ofString "/claim/cut.py") 403), (.int 69 0), (.int 2 0), (.int 0 0), (.int 0 0), (.int 3 0), (.ref 166), (.bool true), (.int 181 0), (.ref 167), .none, (.ref 168), (.ref 169), (.ref 170), (.int 406 0), (.int 69 0), (.str (Str.ofString "/claim/cut.py") 407)]), #[]⟩) :: (nat_lit 172, ⟨(.type "function"), none, (.func (fnD (inAt 18 4) (Str.ofString "Floor.shade") .none .none .none (.str (Str.ofString "slabfloor.floor") 339) none (.ref 171) .none)), #[]⟩) :: (nat_lit 173, ⟨(.type "tuple"), none, (.seq #[] 0), #[]⟩) :: (nat_lit 175, ⟨(.type "tuple"), none, (.seq #[(.str (Str.ofString "self") 412), (.str (Str.ofString "one") 413), (.str (Str.ofString "other") 414), (.str (Str.ofString "low") 415), (.str (Str.ofString "high") 416), (.str (Str.ofString "first") 417), (.str (Str.ofString "second") 418)] 0), #[]⟩) :: (nat_lit 176, ⟨(.type "tuple"), none, (.seq #[] 0), #[]⟩) :: (nat_lit 178, ⟨(.type "code"), none, (.fields #[(.str (Str.ofString "may") 409), (.str (Str.ofString "Floor.may") 410), (.str (Str.ofString "/claim/cut.py") 411), (.int 72 0), (.int 3 0), (.int 0 0), (.int 0 0), (.int 3 0), (.ref 173), (.bool true), (.int 181 0), (.ref 174), .none, (.ref 175), (.ref 176), (.ref 177), (.int 419 0), (.int 72 0), (.str (Str.ofString "/claim/cut.py") 420)]), #[]⟩) :: (nat_lit 179, ⟨(.type "function"), none, (.func (fnD (inAt 18 5) (Str.ofString "Floor.may") .none .none .none (.str (Str.ofString "slabfloor.floor") 339) none (.ref 178) .none)), #[]⟩) :: (nat_lit 180, ⟨(.type "tuple"), none, (.seq #[] 0), #[]⟩) :: (nat_lit 182, ⟨(.type "tuple"), none, (.seq #[(.str (Str.ofString "self") 425), (.str (Str.ofString "cell") 426), (.str (Str.ofString "found") 427), (.str (Str.ofString "other") 428)] 0), #[]⟩) :: (nat_lit 183, ⟨(.type "tuple"), none, (.seq #[] 0), #[]⟩) :: (nat_lit 185, ⟨(.type "code"), none, (.fields #[(.str (Str.ofString "beside") 422), (.str (Str.ofString "Floor.beside") 423), (.str (Str.ofString "/claim/cut.py") 424), (.int 85 0), (.int 2 0), (.int 0 0), (.int 0 0), (.int 3 0), (.ref 180), (.bool true), (.int 181 0), (.ref 181), .none, (.ref 182), (.ref 183), (.ref 184), (.int 429 0), (.int 85 0), (.str (Str.ofString "/claim/cut.py") 430)]), #[]⟩) :: (nat_lit 186, ⟨(.type "function"), none, (.func (fnD (inAt 18 6) (Str.ofString "Floor.beside") .none .none .none (.str (Str.ofString "slabfloor.floor") 339) none (.ref 185) .none)), #[]⟩) :: (nat_lit 187, ⟨(.type "tuple"), none, (.seq #[(.str (Str.ofString "high") 432), (.str (Str.ofString "rows") 433), (.str (Str.ofString "wide") 434)] 0), #[]⟩) :: (nat_lit 188, ⟨(.type "dict"), none, (.dict #[⟨PyData.keyHash P (Str.ofString "__module__"), (.str (Str.ofString "__module__") 364), (.str (Str.ofString "slabfloor.floor") 339)⟩, ⟨PyData.keyHash P (Str.ofString "__firstlineno__"), (.str (Str.ofString "__firstlineno__") 368), (.int 44 367)⟩, ⟨PyData.keyHash P (Str.ofString "__init__"), (.str (Str.ofString "__init__") 378), (.ref 146)⟩, ⟨PyData.keyHash P (Str.ofString "sign_of"), (.str (Str.ofString "sign_of") 386), (.ref 153)⟩, ⟨PyData.keyHash P (Str.ofString "has"), (.str (Str.ofString "has") 394), (.ref 160)⟩, ⟨PyData.keyHash P (Str.ofString "cells"), (.str (Str.ofString "cells") 400), (.ref 165)⟩, ⟨PyData.keyHash P (Str.ofString "shade"), (.str (Str.ofString "shade") 408), (.ref 172)⟩, ⟨PyData.keyHash P (Str.ofString "may"), (.str (Str.ofString "may") 421), (.ref 179)⟩, ⟨PyData.keyHash P (Str.ofString "beside"), (.str (Str.ofString "beside") 431), (.ref 186)⟩, ⟨PyData.keyHash P (Str.ofString "__static_attributes__"), (.str (Str.ofString "__static_attributes__") 435), (.ref 187)⟩, ⟨PyData.keyHash P (Str.ofString "__dict__"), (.str (Str.ofString "__dict__") 437), (.ref 190)⟩, ⟨PyData.keyHash P (Str.ofString "__weakref__"), (.str (Str.ofString "__weakref__") 439), (.ref 191)⟩, ⟨PyData.keyHash P (Str.ofString "__doc__"), (.str (Str.ofString "__doc__") 440), .none⟩] 4), #[]⟩) :: (nat_lit 189, ⟨(.type "type"), none, (.cls { name := (Str.ofString "Floor"), bases := [(.type "object")], mro := [(.ref 189), (.type "object")], ns := 188, qualname := (Str.ofString "Floor"), hasDict := true, slotNames := [], subclasses := [], abstract := false, collection := none, hasDel := false }), #[none, none, (some (.str (Str.ofString "Floor") 357)), (some (.str (Str.ofString "Floor") 365)), (some (.builtin "object.__new__")), (some (.bool true))]⟩) :: (nat_lit 190, ⟨(.type "getset_descriptor"), none, (.fields #[(.str (Str.ofString "__dict__") 436), (.ref 189), (.builtin "function.__dict__"), (.builtin "function.__dict__#set")]), #[]⟩) :: (nat_lit 191, ⟨(.type "getset_descriptor"), none, (.fields #[(.str (Str.ofString "__weakref__") 438), (.ref 189), (.builtin "ExceptionGroup.__weakref__"), .none]), #[]⟩) :: (nat_lit 201, ⟨(.type "tuple"), none, (.seq #[] 0), #[]⟩) :: (nat_lit 203, ⟨(.type "tuple"), none, (.seq #[(.str (Str.ofString "self") 460), (.str (Str.ofString "floor") 461)] 0), #[]⟩) :: (nat_lit 204, ⟨(.type "tuple"), none, (.seq #[] 0), #[]⟩) :: (nat_lit 206, ⟨(.type "code"), none, (.fields #[(.str (Str.ofString "__init__") 457), (.str (Str.ofString "Laying.__init__") 458), (.str (Str.ofString "/claim/cut.py") 459), (.int 96 0), (.int 2 0), (.int 0 0), (.int 0 0), (.int 3 0), (.ref 201), (.bool true), (.int 181 0), (.ref 202), .none, (.ref 203), (.ref 204), (.ref 205), (.int 462 0), (.int 96 0), (.str (Str.ofString "/claim/cut.py") 463)]), #[]⟩) :: (nat_lit 207, ⟨(.type "function"), none, (.func (fnD (inAt 20 0) (Str.ofString "Laying.__init__") .none .none .none (.str (Str.ofString "slabfloor.laying") 443) none (.ref 206) .none)), #[]⟩) :: (nat_lit 208, ⟨(.type "tuple"), none, (.seq #[] 0), #[]⟩) :: (nat_lit 210, ⟨(.type "tuple"), none, (.seq #[(.str (Str.ofString "self") 468), (.str (Str.ofString "cell") 469)] 0), #[]⟩) :: (nat_lit 211, ⟨(.type "tuple"), none, (.seq #[] 0), #[]⟩) :: (nat_lit 213, ⟨(.type "code"), none, (.fields #[(.str (Str.ofString "need_cell") 465), (.str (Str.ofString "Laying.need_cell") 466), (.str (Str.ofString "/claim/cut.py") 467), (.int 100 0), (.int 2 0), (.int 0 0), (.int 0 0), (.int 3 0), (.ref 208), (.bool true), (.int 181 0), (.ref 209), .none, (.ref 210), (.ref 211), (.ref 212), (.int 470 0), (.int 100 0), (.str (Str.ofString "/claim/cut.py") 471)]), #[]⟩) :: (nat_lit 214, ⟨(.type "function"), none, (.func (fnD (inAt 20 1) (Str.ofString "Laying.need_cell") .none .none .none (.str (Str.ofString "slabfloor.laying") 443) none (.ref 213) .none)), #[]⟩) :: (nat_lit 215, ⟨(.type "tuple"), none, (.seq #[] 0), #[]⟩) :: (nat_lit 217, ⟨(.type "tuple"), none, (.seq #[(.str (Str.ofString "self") 476), (.str (Str.ofString "one") 477), (.str (Str.ofString "other") 478)] 0), #[]⟩) :: (nat_lit 218, ⟨(.type "tuple"), none, (.seq #[] 0), #[]⟩) :: (nat_lit 220, ⟨(.type "code"), none, (.fields #[(.str (Str.ofString "put") 473), (.str (Str.ofString "Laying.put") 474), (.str (Str.ofString "/claim/cut.py") 475), (.int 104 0), (.int 3 0), (.int 0 0), (.int 0 0), (.int 3 0), (.ref 215), (.bool true), (.int 181 0), (.ref 216), .none, (.ref 217), (.ref 218), (.ref 219), (.int 479 0), (.int 104 0), (.str (Str.ofString "/claim/cut.py") 480)]), #[]⟩) :: (nat_lit 221, ⟨(.type "function"), none, (.func (fnD (inAt 20 2) (Str.ofString "Laying.put") .none .none .none (.str (Str.ofString "slabfloor.laying") 443) none (.ref 220) .none)), #[]⟩) :: (nat_lit 222, ⟨(.type "tuple"), none, (.seq #[] 0), #[]⟩) :: (nat_lit 224, ⟨(.type "tuple"), none, (.seq #[(.str (Str.ofString "self") 485), (.str (Str.ofString "cell") 486), (.str (Str.ofString "other") 487)] 0), #[]⟩) :: (nat_lit 225, ⟨(.type "tuple"), none, (.seq #[] 0), #[]⟩) :: (nat_lit 227, ⟨(.type "code"), none, (.fields #[(.str (Str.ofString "lift") 482), (.str (Str.ofString "Laying.lift") 483), (.str (Str.ofString "/claim/cut.py") 484), (.int 114 0), (.int 2 0), (.int 0 0), (.int 0 0), (.int 3 0), (.ref 222), (.bool true), (.int 181 0), (.ref 223), .none, (.ref 224), (.ref 225), (.ref 226), (.int 488 0), (.int 114 0), (.str (Str.ofString "/claim/cut.py") 489)]), #[]⟩) :: (nat_lit 228, ⟨(.type "function"), none, (.func (fnD (inAt 20 3) (Str.ofString "Laying.lift") .none .none .none (.str (Str.ofString "slabfloor.laying") 443) none (.ref 227) .none)), #[]⟩) :: (nat_lit 229, ⟨(.type "tuple"), none, (.seq #[] 0), #[]⟩) :: (nat_lit 232, ⟨(.type "code"), none, (.fields #[(.str (Str.ofString "bare") 491), (.str (Str.ofString "Laying.bare") 492), (.str (Str.ofString "/claim/cut.py") 493), (.int 121 0), (.int 1 0), (.int 0 0), (.int 0 0), (.int 3 0), (.ref 229), (.bool true), (.int 181 0), (.ref 230), .none, .none, .none, (.ref 231), (.int 494 0), (.int 121 0), (.str (Str.ofString "/claim/cut.py") 495)]), #[]⟩) :: (nat_lit 233, ⟨(.type "function"), none, (.func (fnD (inAt 20 4) (Str.ofString "Laying.bare") .none .none .none (.str (Str.ofString "slabfloor.laying") 443) none (.ref 232) .none)), #[]⟩) :: (nat_lit 234, ⟨(.type "tuple"), none, (.seq #[] 0), #[]⟩) :: (nat_lit 236, ⟨(.type "tuple"), none, (.seq #[(.str (Str.ofString "self") 500), (.str (Str.ofString "found") 501), (.str (Str.ofString "cell") 502)] 0), #[]⟩) :: (nat_lit 237, ⟨(.type "tuple"), none, (.seq #[] 0), #[]⟩) :: (nat_lit 239, ⟨(.type "code"), none, (.fields #[(.str (Str.ofString "slabs") 497), (.str (Str.ofString "Laying.slabs") 498), (.str (Str.ofString "/claim/cut.py") 499), (.int 124 0), (.int 1 0), (.int 0 0), (.int 0 0), (.int 3 0), (.ref 234), (.bool true), (.int 181 0), (.ref 235), .none, (.ref 236), (.ref 237), (.ref 238), (.int 503 0), (.int 124 0), (.str (Str.ofString "/claim/cut.py") 504)]), #[]⟩) :: (nat_lit 240, ⟨(.type "function"), none, (.func (fnD (inAt 20 5) (Str.ofString "Laying.slabs") .none .none .none (.str (Str.ofString "slabfloor.laying") 443) none (.ref 239) .none)), #[]⟩) :: (nat_lit 241, ⟨(.type "tuple"), none, (.seq #[] 0), #[]⟩) :: (nat_lit 243, ⟨(.type "tuple"), none, (.seq #[(.str (Str.ofString "self") 509), (.str (Str.ofString "made") 510), (.str (Str.ofString "pair") 511)] 0), #[]⟩) :: (nat_lit 244, ⟨(.type "tuple"), none, (.seq #[] 0), #[]⟩) :: (nat_lit 246, ⟨(.type "code"), none, (.fields #[(.str (Str.ofString "copied") 506), (.str (Str.ofString "Laying.copied") 507), (.str (Str.ofString "/claim/cut.py") 508), (.int 131 0), (.int 1 0), (.int 0 0), (.int 0 0), (.int 3 0), (.ref 241), (.bool true), (.int 181 0), (.ref 242), .none, (.ref 243), (.ref 244), (.ref 245), (.int 512 0), (.int 131 0), (.str (Str.ofString "/claim/cut.py") 513)]), #[]⟩) :: (nat_lit 247, ⟨(.type "function"), none, (.func (fnD (inAt 20 6) (Str.ofString "Laying.copied") .none .none .none (.str (Str.ofString "slabfloor.laying") 443) none (.ref 246) .none)), #[]⟩) :: (nat_lit 248, ⟨(.type "tuple"), none, (.seq #[(.str (Str.ofString "floor") 515), (.str (Str.ofString "over") 516)] 0), #[]⟩) :: (nat_lit 249, ⟨(.type "dict"), none, (.dict #[⟨PyData.keyHash P (Str.ofString "__module__"), (.str (Str.ofString "__module__") 452), (.str (Str.ofString "slabfloor.laying") 443)⟩, ⟨PyData.keyHash P (Str.ofString "__firstlineno__"), (.str (Str.ofString "__firstlineno__") 456), (.int 94 455)⟩, ⟨PyData.keyHash P (Str.ofString "__init__"), (.str (Str.ofString "__init__") 464), (.ref 207)⟩, ⟨PyData.keyHash P (Str.ofString "need_cell"), (.str (Str.ofString "need_cell") 472), (.ref 214)⟩, ⟨PyData.keyHash P (Str.ofString "put"), (.str (Str.ofString "put") 481), (.ref 221)⟩, ⟨PyData.keyHash P (Str.ofString "lift"), (.str (Str.ofString "lift") 490), (.ref 228)⟩, ⟨PyData.keyHash P (Str.ofString "bare"), (.str (Str.ofString "bare") 496), (.ref 233)⟩, ⟨PyData.keyHash P (Str.ofString "slabs"), (.str (Str.ofString "slabs") 505), (.ref 240)⟩, ⟨PyData.keyHash P (Str.ofString "copied"), (.str (Str.ofString "copied") 514), (.ref 247)⟩, ⟨PyData.keyHash P (Str.ofString "__static_attributes__"), (.str (Str.ofString "__static_attributes__") 517), (.ref 248)⟩, ⟨PyData.keyHash P (Str.ofString "__dict__"), (.str (Str.ofString "__dict__") 519), (.ref 251)⟩, ⟨PyData.keyHash P (Str.ofString "__weakref__"), (.str (Str.ofString "__weakref__") 521), (.ref 252)⟩, ⟨PyData.keyHash P (Str.ofString "__doc__"), (.str (Str.ofString "__doc__") 522), .none⟩] 4), #[]⟩) :: (nat_lit 250, ⟨(.type "type"), none, (.cls { name := (Str.ofString "Laying"), bases := [(.type "object")], mro := [(.ref 250), (.type "object")], ns := 249, qualname := (Str.ofString "Laying"), hasDict := true, slotNames := [], subclasses := [], abstract := false, collection := none, hasDel := false }), #[none, none, (some (.str (Str.ofString "Laying") 445)), (some (.str (Str.ofString "Laying") 453)), (some (.builtin "object.__new__")), (some (.bool true))]⟩) :: (nat_lit 251, ⟨(.type "getset_descriptor"), none, (.fields #[(.str (Str.ofString "__dict__") 518), (.ref 250), (.builtin "function.__dict__"), (.builtin "function.__dict__#set")]), #[]⟩) :: (nat_lit 252, ⟨(.type "getset_descriptor"), none, (.fields #[(.str (Str.ofString "__weakref__") 520), (.ref 250), (.builtin "ExceptionGroup.__weakref__"), .none]), #[]⟩) :: (nat_lit 255, ⟨(.type "tuple"), none, (.seq #[] 0), #[]⟩) :: (nat_lit 257, ⟨(.type "tuple"), none, (.seq #[(.str (Str.ofString "_law_script") 530), (.str (Str.ofString "_law_k") 531)] 0), #[]⟩) :: (nat_lit 258, ⟨(.type "tuple"), none, (.seq #[] 0), #[]⟩) :: (nat_lit 260, ⟨(.type "code"), none, (.fields #[(.str (Str.ofString "_law_cell_at") 527), (.str (Str.ofString "_law_cell_at") 528), (.str (Str.ofString "/claim/cut.py") 529), (.int 137 0), (.int 2 0), (.int 0 0), (.int 0 0), (.int 3 0), (.ref 255), (.bool true), (.int 181 0), (.ref 256), .none, (.ref 257), (.ref 258), (.ref 259), (.int 532 0), (.int 137 0), (.str (Str.ofString "/claim/cut.py") 533)]), #[]⟩) :: (nat_lit 261, ⟨(.type "function"), none, (.func (fnD (stAt 22) (Str.ofString "_law_cell_at") .none .none .none (.str (Str.ofString "law_uf030040_07") 525) none (.ref 260) .none)), #[]⟩) :: (nat_lit 262, ⟨(.type "tuple"), none, (.seq #[] 0), #[]⟩) :: (nat_lit 264, ⟨(.type "tuple"), none, (.seq #[(.str (Str.ofString "_law_script") 538), (.str (Str.ofString "_law_k") 539), (.str (Str.ofString "_law_base") 540)] 0), #[]⟩) :: (nat_lit 265, ⟨(.type "tuple"), none, (.seq #[] 0), #[]⟩) :: (nat_lit 267, ⟨(.type "code"), none, (.fields #[(.str (Str.ofString "_law_number") 535), (.str (Str.ofString "_law_number") 536), (.str (Str.ofString "/claim/cut.py") 537), (.int 141 0), (.int 2 0), (.int 0 0), (.int 0 0), (.int 3 0), (.ref 262), (.bool true), (.int 181 0), (.ref 263), .none, (.ref 264), (.ref 265), (.ref 266), (.int 541 0), (.int 141 0), (.str (Str.ofString "/claim/cut.py") 542)]), #[]⟩) :: (nat_lit 268, ⟨(.type "function"), none, (.func (fnD (stAt 23) (Str.ofString "_law_number") .none .none .none (.str (Str.ofString "law_uf030040_07") 525) none (.ref 267) .none)), #[]⟩) :: (nat_lit 269, ⟨(.type "tuple"), none, (.seq #[] 0), #[]⟩) :: (nat_lit 272, ⟨(.type "code"), none, (.fields #[(.str (Str.ofString "_law_rows") 544), (.str (Str.ofString "_law_rows") 545), (.str (Str.ofString "/claim/cut.py") 546), (.int 146 0), (.int 1 0), (.int 0 0), (.int 0 0), (.int 3 0), (.ref 269), (.bool true), (.int 181 0), (.ref 270), .none, .none, .none, (.ref 271), (.int 547 0), (.int 146 0), (.str (Str.ofString "/claim/cut.py") 548)]), #[]⟩) :: (nat_lit 273, ⟨(.type "function"), none, (.func (fnD (stAt 24) (Str.ofString "_law_rows") .none .none .none (.str (Str.ofString "law_uf030040_07") 525) none (.ref 272) .none)), #[]⟩) :: (nat_lit 274, ⟨(.type "tuple"), none, (.seq #[] 0), #[]⟩) :: (nat_lit 276, ⟨(.type "tuple"), none, (.seq #[(.str (Str.ofString "_law_rows_here") 553), (.str (Str.ofString "_law_one") 554), (.str (Str.ofString "_law_other") 555), (.str (Str.ofString "_law_wide") 556), (.str (Str.ofString "_law_a") 557), (.str (Str.ofString "_law_b") 558)] 0), #[]⟩) :: (nat_lit 277, ⟨(.type "tuple"), none, (.seq #[] 0), #[]⟩) :: (nat_lit 279, ⟨(.type "code"), none, (.fields #[(.str (Str.ofString "_law_may") 550), (.str (Str.ofString "_law_may") 551), (.str (Str.ofString "/claim/cut.py") 552), (.int 165 0), (.int 3 0), (.int 0 0), (.int 0 0), (.int 3 0), (.ref 274), (.bool true), (.int 181 0), (.ref 275), .none, (.ref 276), (.ref 277), (.ref 278), (.int 559 0), (.int 165 0), (.str (Str.ofString "/claim/cut.py") 560)]), #[]⟩) :: (nat_lit 280, ⟨(.type "function"), none, (.func (fnD (stAt 25) (Str.ofString "_law_may") .none .none .none (.str (Str.ofString "law_uf030040_07") 525) none (.ref 279) .none)), #[]⟩) :: (nat_lit 281, ⟨(.type "tuple"), none, (.seq #[] 0), #[]⟩) :: (nat_lit 284, ⟨(.type "code"), none, (.fields #[(.str (Str.ofString "_law_cells") 562), (.str (Str.ofString "_law_cells") 563), (.str (Str.ofString "/claim/cut.py") 564), (.int 176 0), (.int 1 0), (.int 0 0), (.int 0 0), (.int 3 0), (.ref 281), (.bool true), (.int 181 0), (.ref 282), .none, .none, .none, (.ref 283), (.int 565 0), (.int 176 0), (.str (Str.ofString "/claim/cut.py") 566)]), #[]⟩) :: (nat_lit 285, ⟨(.type "function"), none, (.func (fnD (stAt 26) (Str.ofString "_law_cells") .none .none .none (.str (Str.ofString "law_uf030040_07") 525) none (.ref 284) .none)), #[]⟩) :: (nat_lit 286, ⟨(.type "tuple"), none, (.seq #[] 0), #[]⟩) :: (nat_lit 289, ⟨(.type "code"), none, (.fields #[(.str (Str.ofString "_law_beside") 568), (.str (Str.ofString "_law_beside") 569), (.str (Str.ofString "/claim/cut.py") 570), (.int 179 0), (.int 2 0), (.int 0 0), (.int 0 0), (.int 3 0), (.ref 286), (.bool true), (.int 181 0), (.ref 287), .none, .none, .none, (.ref 288), (.int 571 0), (.int 179 0), (.str (Str.ofString "/claim/cut.py") 572)]), #[]⟩) :: (nat_lit 290, ⟨(.type "function"), none, (.func (fnD (stAt 27) (Str.ofString "_law_beside") .none .none .none (.str (Str.ofString "law_uf030040_07") 525) none (.ref 289) .none)), #[]⟩) :: (nat_lit 291, ⟨(.type "tuple"), none, (.seq #[] 0), #[]⟩) :: (nat_lit 294, ⟨(.type "code"), none, (.fields #[(.str (Str.ofString "_law_over") 574), (.str (Str.ofString "_law_over") 575), (.str (Str.ofString "/claim/cut.py") 576), (.int 185 0), (.int 3 0), (.int 0 0), (.int 0 0), (.int 3 0), (.ref 291), (.bool true), (.int 181 0), (.ref 292), .none, .none, .none, (.ref 293), (.int 577 0), (.int 185 0), (.str (Str.ofString "/claim/cut.py") 578)]), #[]⟩) :: (nat_lit 295, ⟨(.type "function"), none, (.func (fnD (stAt 28) (Str.ofString "_law_over") .none .none .none (.str (Str.ofString "law_uf030040_07") 525) none (.ref 294) .none)), #[]⟩) :: (nat_lit 296, ⟨(.type "tuple"), none, (.seq #[] 0), #[]⟩) :: (nat_lit 298, ⟨(.type "tuple"), none, (.seq #[(.str (Str.ofString "_law_floor") 583), (.str (Str.ofString "_law_over_here") 584), (.str (Str.ofString "_law_laying") 585), (.str (Str.ofString "_law_cell") 586)] 0), #[]⟩) :: (nat_lit 299, ⟨(.type "tuple"), none, (.seq #[] 0), #[]⟩) :: (nat_lit 301, ⟨(.type "code"), none, (.fields #[(.str (Str.ofString "_law_made") 580), (.str (Str.ofString "_law_made") 581), (.str (Str.ofString "/claim/cut.py") 582), (.int 197 0), (.int 2 0), (.int 0 0), (.int 0 0), (.int 3 0), (.ref 296), (.bool true), (.int 181 0), (.ref 297), .none, (.ref 298), (.ref 299), (.ref 300), (.int 587 0), (.int 197 0), (.str (Str.ofString "/claim/cut.py") 588)]), #[]⟩) :: (nat_lit 302, ⟨(.type "function"), none, (.func (fnD (stAt 29) (Str.ofString "_law_made") .none .none .none (.str (Str.ofString "law_uf030040_07") 525) none (.ref 301) .none)), #[]⟩) :: (nat_lit 303, ⟨(.type "tuple"), none, (.seq #[] 0), #[]⟩) :: (nat_lit 305, ⟨(.type "tuple"), none, (.seq #[(.str (Str.ofString "_law_found") 593)] 0), #[]⟩) :: (nat_lit 306, ⟨(.type "tuple"), none, (.seq #[] 0), #[]⟩) :: (nat_lit 308, ⟨(.type "code"), none, (.fields #[(.str (Str.ofString "_law_whole") 590), (.str (Str.ofString "_law_whole") 591), (.str (Str.ofString "/claim/cut.py") 592), (.int 203 0), (.int 1 0), (.int 0 0), (.int 0 0), (.int 3 0), (.ref 303), (.bool true), (.int 181 0), (.ref 304), .none, (.ref 305), (.ref 306), (.ref 307), (.int 594 0), (.int 203 0), (.str (Str.ofString "/claim/cut.py") 595)]), #[]⟩) :: (nat_lit 309, ⟨(.type "function"), none, (.func (fnD (stAt 30) (Str.ofString "_law_whole") .none .none .none (.str (Str.ofString "law_uf030040_07") 525) none (.ref 308) .none)), #[]⟩) :: (nat_lit 310, ⟨(.type "tuple"), none, (.seq #[] 0), #[]⟩) :: (nat_lit 312, ⟨(.type "tuple"), none, (.seq #[(.str (Str.ofString "_law_rows_here") 600), (.str (Str.ofString "_law_over_here") 601), (.str (Str.ofString "_law_cell") 602)] 0), #[]⟩) :: (nat_lit 313, ⟨(.type "tuple"), none, (.seq #[] 0), #[]⟩) :: (nat_lit 315, ⟨(.type "code"), none, (.fields #[(.str (Str.ofString "_law_lies") 597), (.str (Str.ofString "_law_lies") 598), (.str (Str.ofString "/claim/cut.py") 599), (.int 205 0), (.int 2 0), (.int 0 0), (.int 0 0), (.int 3 0), (.ref 310), (.bool true), (.int 181 0), (.ref 311), .none, (.ref 312), (.ref 313), (.ref 314), (.int 603 0), (.int 205 0), (.str (Str.ofString "/claim/cut.py") 604)]), #[]⟩) :: (nat_lit 316, ⟨(.type "function"), none, (.func (fnD (stAt 31) (Str.ofString "_law_lies") .none .none .none (.str (Str.ofString "law_uf030040_07") 525) none (.ref 315) .none)), #[]⟩) :: (nat_lit 317, ⟨(.type "tuple"), none, (.seq #[] 0), #[]⟩) :: (nat_lit 320, ⟨(.type "code"), none, (.fields #[(.str (Str.ofString "_law_gone") 606), (.str (Str.ofString "_law_gone") 607), (.str (Str.ofString "/claim/cut.py") 608), (.int 214 0), (.int 3 0), (.int 0 0), (.int 0 0), (.int 3 0), (.ref 317), (.bool true), (.int 181 0), (.ref 318), .none, .none, .none, (.ref 319), (.int 609 0), (.int 214 0), (.str (Str.ofString "/claim/cut.py") 610)]), #[]⟩) :: (nat_lit 321, ⟨(.type "function"), none, (.func (fnD (stAt 32) (Str.ofString "_law_gone") .none .none .none (.str (Str.ofString "law_uf030040_07") 525) none (.ref 320) .none)), #[]⟩) :: (nat_lit 322, ⟨(.type "tuple"), none, (.seq #[] 0), #[]⟩) :: (nat_lit 324, ⟨(.type "tuple"), none, (.seq #[(.str (Str.ofString "_law_laying") 615), (.str (Str.ofString "_law_slab") 616)] 0), #[]⟩) :: (nat_lit 325, ⟨(.type "tuple"), none, (.seq #[] 0), #[]⟩) :: (nat_lit 327, ⟨(.type "code"), none, (.fields #[(.str (Str.ofString "_law_covered") 612), (.str (Str.ofString "_law_covered") 613), (.str (Str.ofString "/claim/cut.py") 614), (.int 226 0), (.int 2 0), (.int 0 0), (.int 0 0), (.int 3 0), (.ref 322), (.bool true), (.int 181 0), (.ref 323), .none, (.ref 324), (.ref 325), (.ref 326), (.int 617 0), (.int 226 0), (.str (Str.ofString "/claim/cut.py") 618)]), #[]⟩) :: (nat_lit 328, ⟨(.type "function"), none, (.func (fnD (stAt 33) (Str.ofString "_law_covered") .none .none .none (.str (Str.ofString "law_uf030040_07") 525) none (.ref 327) .none)), #[]⟩) :: (nat_lit 329, ⟨(.type "tuple"), none, (.seq #[] 0), #[]⟩) :: (nat_lit 331, ⟨(.type "tuple"), none, (.seq #[(.str (Str.ofString "_law_laying") 623), (.str (Str.ofString "_law_slab") 624)] 0), #[]⟩) :: (nat_lit 332, ⟨(.type "tuple"), none, (.seq #[] 0), #[]⟩) :: (nat_lit 334, ⟨(.type "code"), none, (.fields #[(.str (Str.ofString "_law_put_again") 620), (.str (Str.ofString "_law_put_again") 621), (.str (Str.ofString "/claim/cut.py") 622), (.int 232 0), (.int 2 0), (.int 0 0), (.int 0 0), (.int 3 0), (.ref 329), (.bool true), (.int 181 0), (.ref 330), .none, (.ref 331), (.ref 332), (.ref 333), (.int 625 0), (.int 232 0), (.str (Str.ofString "/claim/cut.py") 626)]), #[]⟩) :: (nat_lit 335, ⟨(.type "function"), none, (.func (fnD (stAt 34) (Str.ofString "_law_put_again") .none .none .none (.str (Str.ofString "law_uf030040_07") 525) none (.ref 334) .none)), #[]⟩) :: (nat_lit 336, ⟨(.type "tuple"), none, (.seq #[] 0), #[]⟩) :: (nat_lit 338, ⟨(.type "tuple"), none, (.seq #[(.str (Str.ofString "_law_rows_here") 631), (.str (Str.ofString "_law_laying") 632), (.str (Str.ofString "_law_cell") 633), (.str (Str.ofString "_law_near") 634), (.str (Str.ofString "_law_other") 635), (.str (Str.ofString "_law_mates") 636), (.str (Str.ofString "_law_mate") 637), (.str (Str.ofString "_law_good") 638)] 0), #[]⟩) :: (nat_lit 339, ⟨(.type "tuple"), none, (.seq #[] 0), #[]⟩) :: (nat_lit 341, ⟨(.type "code"), none, (.fields #[(.str (Str.ofString "_law_bare_taken") 628), (.str (Str.ofString "_law_bare_taken") 629), (.str (Str.ofString "/claim/cut.py") 630), (.int 238 0), (.int 3 0), (.int 0 0), (.int 0 0), (.int 3 0), (.ref 336), (.bool true), (.int 181 0), (.ref 337), .none, (.ref 338), (.ref 339), (.ref 340), (.int 639 0), (.int 238 0), (.str (Str.ofString "/claim/cut.py") 640)]), #[]⟩) :: (nat_lit 342, ⟨(.type "function"), none, (.func (fnD (stAt 35) (Str.ofString "_law_bare_taken") .none .none .none (.str (Str.ofString "law_uf030040_07") 525) none (.ref 341) .none)), #[]⟩) :: (nat_lit 343, ⟨(.type "tuple"), none, (.seq #[] 0), #[]⟩) :: (nat_lit 346, ⟨(.type "code"), none, (.fields #[(.str (Str.ofString "_law_told_well") 642), (.str (Str.ofString "_law_told_well") 643), (.str (Str.ofString "/claim/cut.py") 644), (.int 252 0), (.int 2 0), (.int 0 0), (.int 0 0), (.int 3 0), (.ref 343), (.bool true), (.int 181 0), (.ref 344), .none, .none, .none, (.ref 345), (.int 645 0), (.int 252 0), (.str (Str.ofString "/claim/cut.py") 646)]), #[]⟩) :: (nat_lit 347, ⟨(.type "function"), none, (.func (fnD (stAt 36) (Str.ofString "_law_told_well") .none .none .none (.str (Str.ofString "law_uf030040_07") 525) none (.ref 346) .none)), #[]⟩) :: (nat_lit 348, ⟨(.type "tuple"), none, (.seq #[] 0), #[]⟩) :: (nat_lit 350, ⟨(.type "tuple"), none, (.seq #[(.str (Str.ofString "_law_script") 651), (.str (Str.ofString "_law_rows_here") 652), (.str (Str.ofString "_law_over_here") 653), (.str (Str.ofString "_law_floor") 654), (.str (Str.ofString "_law_laying") 655), (.str (Str.ofString "_law_way") 656), (.str (Str.ofString "_law_due") 657), (.str (Str.ofString "_law_cell") 658), (.str (Str.ofString "_law_k") 659), (.str (Str.ofString "_law_handed") 660), (.str (Str.ofString "_law_found") 661), (.str (Str.ofString "_law_one") 662), (.str (Str.ofString "_law_other") 663), (.str (Str.ofString "_law_kept") 664), (.str (Str.ofString "_law_slab") 665)] 0), #[]⟩) :: (nat_lit 351, ⟨(.type "tuple"), none, (.seq #[] 0), #[]⟩) :: (nat_lit 353, ⟨(.type "code"), none, (.fields #[(.str (Str.ofString "law") 648), (.str (Str.ofString "law") 649), (.str (Str.ofString "/claim/cut.py") 650), (.int 270 0), (.int 1 0), (.int 0 0), (.int 0 0), (.int 3 0), (.ref 348), (.bool true), (.int 181 0), (.ref 349), .none, (.ref 350), (.ref 351), (.ref 352), (.int 666 0), (.int 270 0), (.str (Str.ofString "/claim/cut.py") 667)]), #[]⟩) :: (nat_lit 354, ⟨(.type "function"), none, (.func (fnD (stAt 37) (Str.ofString "law") .none .none .none (.str (Str.ofString "law_uf030040_07") 525) none (.ref 353) .none)), #[]⟩) :: []
noncomputable def vw : Program := PySem.W.view PP [0, 2, 4, 5, 6, 7, 8, 9, 10, 11, 13, 14, 15, 16, 17, 18, 20, 22, 23, 24, 25, 26, 27, 28, 29, 30, 31, 32, 33, 34, 35, 36, 37]
noncomputable def hk : Hook := kHook kH kA (fun _ => by kernel_rfl)
theorem both_map {α β γ : Type} {o : Option α} {f : α → β} {g : α → γ} {a : β} {b : γ} (h1 : o.map f = some a) (h2 : o.map g = some b) : o.map (fun s => (f s, g s)) = some (a, b) := by
  cases o with
  | none => cases h1
  | some x => cases h1; cases h2; rfl
noncomputable def topBy (run : type_of% @topRun) (tb : String → Option Builtin) (p : Program) (w : World) (N : Nat) (s₀ : Shared) : Option Shared :=
  match s₀.heap.isNs mainGlobals && s₀.gens.size == 0 with
  | true => (run tb p w s₀.heap.objs.size (s₀.heap.nsMap mainGlobals "__annotations__") N s₀ (topStub p)).bind fun s₁ => match staticsOk (importedModules p.main.body) s₀.heap s₁.heap && namesBound p s₁.heap && gensDone s₁ && laidKept s₀.heap s₁.heap with
      | true => some s₁
      | false => none
  | false => none
noncomputable abbrev tpQ (w : World) : Shared → Option Shared := topBy PySem.W.Fast.tw14082659384304107361 PySem.W.Fast.tw14364793385576792824 PP w 6462
theorem tp_by (w : World) {r : type_of% @topRun} {t : String → Option Builtin} (h1 : @topRun = r) (h2 : treeTable = t) : topFrom treeTable PP w 6462 = topBy r t PP w 6462 := by
  subst h1 h2
  rfl
theorem via_q {α : Type} {o : Option Shared} {f g : Shared → Option Shared} {h k : Shared → α} {y : Option α} (e1 : f = g) (e2 : h = k) (q : (o.bind g).map k = y) : (o.bind f).map h = y := by
  subst e1 e2
  exact q
noncomputable abbrev osQ := PySem.W.Fast.tw4187177175401517315 vw [] (importedModules PP.main.body) (fun s => xlAt vw [] s && recOk (RowW.records PySem.Challenge.rw_uf030040_07.row.toRowW) s) true
theorem os_q : openSeen vw [] (importedModules PP.main.body) (fun s => xlAt vw [] s && recOk (RowW.records PySem.Challenge.rw_uf030040_07.row.toRowW) s) true = osQ := by
  unfold osQ
  rw [PySem.W.Fast.te4187177175401517315]
theorem leftq0 (w : World) : ((fencedOpening treeTable PP w 6462).bind (tpQ w)).map osQ = some (expectedOf vw, bltViewBooted, true, true, pinGoodD (drecsOf vw), plainGoodE vw (looseW vw []), plainGoodD vw [], wideGood vw, clsGoodW vw []) := by kernel_rfl
theorem left0 (w : World) : (openEnds treeTable PP w 6462).map (openSeen vw [] (importedModules PP.main.body) (fun s => xlAt vw [] s && recOk (RowW.records PySem.Challenge.rw_uf030040_07.row.toRowW) s) true) = some (openGood vw []) := via_q (o := fencedOpening treeTable PP w 6462) (tp_by _ PySem.W.Fast.te14082659384304107361 PySem.W.Fast.te14364793385576792824) os_q (leftq0 w)
theorem leftq1 (w : World) : ((fencedOpening treeTable PP w 6462).bind (tpQ w)).map hk.obs = some (hk.val w) := by kernel_rfl
theorem left1 (w : World) : (openEnds treeTable PP w 6462).map hk.obs = some (hk.val w) := via_q (o := fencedOpening treeTable PP w 6462) (tp_by _ PySem.W.Fast.te14082659384304107361 PySem.W.Fast.te14364793385576792824) rfl (leftq1 w)
theorem left : LeftO PP vw [] (fun s => xlAt vw [] s && recOk (RowW.records PySem.Challenge.rw_uf030040_07.row.toRowW) s) hk.obs hk.val 6462 := fun w => both_map (left0 w) (left1 w)

theorem dS : (defOf vw (Str.ofString "law")).isSome = true := by kernel_rfl
noncomputable def dL : DefRec × List (Str × PySem.Expr) := (defOf vw (Str.ofString "law")).get dS
theorem hd (walk : WalkO vw [] (XL vw []) hk.says PySem.Challenge.rw_uf030040_07.row.toRowW dL.1 dL.2 fun f vs => PySem.call f vs) : PySem.Challenge.rw_uf030040_07.Holds := by
  w_on
  refine holds_law (by kernel_rfl) fun said => ?_
  refine holds_open (q := vw) (loose := []) (Xt := fun s => xlAt vw [] s && recOk (RowW.records PySem.Challenge.rw_uf030040_07.row.toRowW) s) (XP := XL vw []) (Yf := hk.obs) (Ya := hk.val) (YP := hk.says) (d := dL.1) (kwd := dL.2) (N := 6462) left hk.of hk.keeps (fun s e => xl_of s (Bool.and_eq_true_iff.mp e).1) XL.keeps (by kernel_rfl) (by kernel_rfl) (by kernel_rfl) (fun s e => recFacts_of (Bool.and_eq_true_iff.mp e).2) (by kernel_rfl) said (by kernel_rfl) ⟨rfl, rfl, rfl, rfl, rfl, by decide +kernel⟩ ?hw walk
  w_witness2
end Fl

namespace Fl
open PySem PyProof.Rows
theorem nz1 {a : Nat} (h : ¬ a = 0) : a - 1 < a := Nat.sub_lt (Nat.pos_of_ne_zero h) Nat.one_pos
theorem nz2 {s n : Nat} (h : 0 < n) : s + n - 1 < s + n := Nat.sub_lt (Nat.add_pos_right _ h) Nat.one_pos
theorem nz0 {k n : Nat} (h : ¬ n - k = 0) : k + (n - k) = n := Nat.add_sub_cancel' (Nat.le_of_lt (Nat.lt_of_sub_pos (Nat.pos_of_ne_zero h)))
theorem nz3 {s k n : Nat} (h : ¬ n - k = 0) : s + k + (n - k - 1) = s + n - 1 := by
  rw [Nat.add_assoc, ← Nat.add_sub_assoc (Nat.pos_of_ne_zero h), nz0 h, Nat.add_sub_assoc]
  exact Nat.le_trans (Nat.pos_of_ne_zero h) (Nat.sub_le _ _)
theorem nz4 {s k n j : Nat} (h : j < n - k) : s + k + j < s + n := by
  rw [Nat.add_assoc]; exact Nat.add_lt_add_left (Nat.add_lt_of_lt_sub' h) _
theorem nz5 {i j l m : Nat} (h : i < j) (h' : j - l < m) : i - l < m := Nat.lt_of_le_of_lt (Nat.sub_le_sub_right (Nat.le_of_lt h) _) h'
theorem half_le {l r : Nat} (h : l ≤ r) : l ≤ (l + r) / 2 ∧ (l + r) / 2 ≤ r := by lia
theorem nz6 {k x l r : Nat} (_ : x < k) (h1 : l ≤ r) (h2 : r - l ≤ k - x) (h3 : ¬ l ≥ r) : r - ((l + r) / 2 + 1) ≤ k - (x + 1) := by
  rw [← Nat.sub_sub, ← Nat.sub_sub]; exact Nat.sub_le_sub_right (Nat.le_trans (Nat.sub_le_sub_left (half_le h1).1 _) h2) _
theorem nz7 {k x l r : Nat} (_ : x < k) (h1 : l ≤ r) (h2 : r - l ≤ k - x) (h3 : ¬ l ≥ r) : (l + r) / 2 - l ≤ k - (x + 1) := by
  have : (l + r) / 2 < r := by lia
  rw [← Nat.sub_sub]
  exact Nat.le_trans (Nat.le_sub_one_of_lt (Nat.sub_lt_sub_right (half_le h1).1 this)) (Nat.sub_le_sub_right h2 _)
theorem nz8 {lo m i j : Nat} (_ : i ≤ j) (h : j < m) : lo + (m - 1 - i) = lo + (lo + m) - 1 - (lo + i) := by
  rw [← Nat.add_assoc, Nat.add_sub_assoc (Nat.lt_of_le_of_lt (Nat.zero_le _) h), Nat.add_assoc, Nat.add_sub_add_left, Nat.add_sub_assoc (Nat.le_sub_one_of_lt (Nat.lt_of_le_of_lt ‹_› h))]
theorem nz9 {n m i : Nat} (_ : 1 ≤ n) (h : n + 1 ≤ m) : m - 1 - i < m := Nat.lt_of_le_of_lt (Nat.sub_le _ _) (Nat.sub_lt (Nat.lt_of_lt_of_le (Nat.succ_pos _) h) Nat.one_pos)
theorem nz10 {n x l r : Nat} (_ : x < n) (_ : l ≤ r) (h2 : r - l ≤ n - x) (_ : ¬ l ≥ r) : r - (l + (r - l) / 2 + 1) ≤ n - (x + 1) :=
  Nat.le_trans (Nat.sub_le_sub_left (Nat.succ_le_succ (Nat.le_add_right l ((r - l) / 2))) r) (by show r - (l + 1) ≤ _; rw [← Nat.sub_sub, ← Nat.sub_sub]; exact Nat.sub_le_sub_right h2 _)
theorem nz11 {n x l r : Nat} (_ : x < n) (_ : l ≤ r) (h2 : r - l ≤ n - x) (h3 : ¬ l ≥ r) : l + (r - l) / 2 - l ≤ n - (x + 1) := by
  rw [Nat.add_sub_cancel_left, ← Nat.sub_sub]
  exact Nat.le_trans (Nat.le_sub_one_of_lt (Nat.div_lt_self (Nat.sub_pos_of_lt (Nat.lt_of_not_le h3)) (Nat.lt_succ_self 1))) (Nat.sub_le_sub_right h2 _)
theorem nz12 {j n m : Nat} (h : j < n - 1) (h' : n ≤ m) : 0 + j < m := by
  rw [Nat.zero_add]; exact Nat.lt_of_lt_of_le h (Nat.le_trans (Nat.sub_le _ _) h')
theorem nz13 {p l o : Nat} (h1 : l < o) (h2 : l ≤ p) : p + 1 - min o (p + 1) ≤ p - l :=
  Nat.le_trans (Nat.sub_le_sub_left (Nat.le_min.mpr ⟨h1, Nat.succ_le_succ h2⟩) _) (Nat.le_of_eq (Nat.add_sub_add_right p 1 l))
theorem nz15 {p o i : Nat} (h : i < p + 1 - min o (p + 1)) : o ≤ p := by
  refine Nat.le_of_not_lt fun q => ?_
  rw [Nat.min_eq_right q, Nat.sub_self] at h
  exact absurd h (Nat.not_lt_zero _)
theorem nz14 {p o i : Nat} (h : i < p + 1 - min o (p + 1)) : i ≤ p - o := by
  have q := nz15 h
  rw [Nat.min_eq_left (Nat.le_succ_of_le q), Nat.succ_sub q] at h
  exact Nat.le_of_lt_succ h
def gallop' : Bool → Keyed → Array Keyed → Nat → Nat → Nat → StateT SortSt Sem (Option Nat) := sortPriv% PySem.Builtin.gallop
def mergeLo' : Array Keyed → Array Keyed → StateT SortSt Sem (Array Keyed) := sortPriv% PySem.Builtin.mergeLo
def mergeHi' : Array Keyed → Array Keyed → StateT SortSt Sem (Array Keyed) := sortPriv% PySem.Builtin.mergeHi
/-- ordered by a measure -/
def Srt {α : Type} (f : α → Int) (l : List α) : Prop := l.Pairwise fun p q => f p ≤ f q
def Low {α : Type} (f : α → Int) (l r : List α) : Prop := ∀ p ∈ l, ∀ q ∈ r, f p ≤ f q

section
variable {α : Type} {f : α → Int}
theorem Srt.append {l r : List α} (a : Srt f l) (b : Srt f r) (c : Low f l r) : Srt f (l ++ r) := List.pairwise_append.mpr ⟨a, b, c⟩
theorem Srt.split {l r : List α} (a : Srt f (l ++ r)) : Srt f l ∧ Srt f r ∧ Low f l r := List.pairwise_append.mp a
theorem Low.app {l r t : List α} (a : Low f l t) (b : Low f r t) : Low f (l ++ r) t := fun p hp q hq => (List.mem_append.mp hp).elim (fun h => a p h q hq) fun h => b p h q hq
theorem Low.app' {l r t : List α} (a : Low f l r) (b : Low f l t) : Low f l (r ++ t) := fun p hp q hq => (List.mem_append.mp hq).elim (fun h => a p hp q h) fun h => b p hp q h
theorem Low.left {l r t : List α} (a : Low f l (r ++ t)) : Low f l r := fun p hp q hq => a p hp q (List.mem_append_left _ hq)
theorem Low.right {l r t : List α} (a : Low f l (r ++ t)) : Low f l t := fun p hp q hq => a p hp q (List.mem_append_right _ hq)
theorem Low.nil {l : List α} : Low f l [] := fun _ _ _ h => nomatch h
theorem Low.nil' {l : List α} : Low f [] l := fun _ h => nomatch h

/-- the state of a merge from below: what is out, what is left of either -/
structure MI (f : α → Int) (X Y O U V : List α) : Prop where
  perm : (O ++ U ++ V).Perm (X ++ Y)
  so : Srt f O
  su : Srt f U
  sv : Srt f V
  ou : Low f O U
  ov : Low f O V

theorem MI.takeU {X Y O T D V : List α} (h : MI f X Y O (T ++ D) V) (c : Low f T V) : MI f X Y (O ++ T) D V :=
  ⟨by simpa [List.append_assoc] using h.perm, h.so.append h.su.split.1 h.ou.left, h.su.split.2.1, h.sv, h.ou.right.app h.su.split.2.2, h.ov.app c⟩
theorem MI.takeV {X Y O U T D : List α} (h : MI f X Y O U (T ++ D)) (c : Low f T U) : MI f X Y (O ++ T) U D :=
  ⟨by
    refine List.Perm.trans ?_ h.perm
    rw [List.append_assoc, List.append_assoc, List.append_assoc]
    refine List.Perm.append_left _ ?_
    rw [← List.append_assoc, ← List.append_assoc]
    exact List.Perm.append_right _ List.perm_append_comm, h.so.append h.sv.split.1 h.ov.left, h.su, h.sv.split.2.1, h.ou.app c, h.ov.right.app h.sv.split.2.2⟩
theorem MI.endU {X Y O U : List α} (h : MI f X Y O U []) : (O ++ U).Perm (X ++ Y) ∧ Srt f (O ++ U) :=
  ⟨by simpa using h.perm, h.so.append h.su h.ou⟩
theorem MI.endVU {X Y O U V : List α} (h : MI f X Y O U V) (c : Low f V U) : (O ++ V ++ U).Perm (X ++ Y) ∧ Srt f (O ++ V ++ U) :=
  ⟨by
    refine List.Perm.trans ?_ h.perm
    rw [List.append_assoc, List.append_assoc]
    exact List.Perm.append_left _ List.perm_append_comm, (h.so.append h.sv h.ov).append h.su (h.ou.app c)⟩
theorem MI.endV {X Y O V : List α} (h : MI f X Y O [] V) : (O ++ V).Perm (X ++ Y) ∧ Srt f (O ++ V) :=
  ⟨by simpa using h.perm, h.so.append h.sv h.ov⟩

/-- the state of a merge from above -/
structure MH (f : α → Int) (X Y U V R : List α) : Prop where
  perm : (U ++ V ++ R).Perm (X ++ Y)
  so : Srt f R
  su : Srt f U
  sv : Srt f V
  ou : Low f U R
  ov : Low f V R
theorem MH.takeU {X Y D T V R : List α} (h : MH f X Y (D ++ T) V R) (c : Low f V T) : MH f X Y D V (T ++ R) :=
  ⟨by
    refine List.Perm.trans ?_ h.perm
    rw [List.append_assoc, List.append_assoc, List.append_assoc]
    refine List.Perm.append_left _ ?_
    rw [← List.append_assoc, ← List.append_assoc]
    exact List.Perm.append_right _ List.perm_append_comm, Srt.append h.su.split.2.1 h.so (fun p hp q hq => h.ou p (List.mem_append_right _ hp) q hq), h.su.split.1, h.sv,
   h.su.split.2.2.app' fun p hp q hq => h.ou p (List.mem_append_left _ hp) q hq, c.app' h.ov⟩
theorem MH.takeV {X Y U D T R : List α} (h : MH f X Y U (D ++ T) R) (c : Low f U T) : MH f X Y U D (T ++ R) :=
  ⟨by simpa [List.append_assoc] using h.perm, Srt.append h.sv.split.2.1 h.so (fun p hp q hq => h.ov p (List.mem_append_right _ hp) q hq), h.su, h.sv.split.1,
   c.app' h.ou, h.sv.split.2.2.app' fun p hp q hq => h.ov p (List.mem_append_left _ hp) q hq⟩
theorem MH.endV {X Y V R : List α} (h : MH f X Y [] V R) : (V ++ R).Perm (X ++ Y) ∧ Srt f (V ++ R) := ⟨by simpa using h.perm, h.sv.append h.so h.ov⟩
theorem MH.endU {X Y U R : List α} (h : MH f X Y U [] R) : (U ++ R).Perm (X ++ Y) ∧ Srt f (U ++ R) := ⟨by simpa using h.perm, h.su.append h.so h.ou⟩
theorem MH.endVU {X Y U V R : List α} (h : MH f X Y U V R) (c : Low f V U) : (V ++ U ++ R).Perm (X ++ Y) ∧ Srt f (V ++ U ++ R) :=
  ⟨(List.Perm.append_right _ List.perm_append_comm).trans h.perm, (h.sv.append h.su c).append h.so (h.ov.app h.ou)⟩
end
section
variable {M : Model} {A : Around} {E : Value → Shared → Prop} {s : Shared} {σ : Type}
theorem wpS_to {α : Type} {m : StateT σ Sem α} {Q : α → σ → Prop} {st : σ} (h : wpS M A E s m Q st) : wpAny M A (m st) (fun r s' => s' = s ∧ Q r.1 r.2) E s := h
theorem wpS_from {α : Type} {m : StateT σ Sem α} {Q : α → σ → Prop} {st : σ} (h : wpAny M A (m st) (fun r s' => s' = s ∧ Q r.1 r.2) E s) : wpS M A E s m Q st := h
end
theorem intAt {xs : Array Keyed} (h0 : IntKeys xs) {i : Nat} (hi : i < xs.size) : ∃ t q, xs[i]? = some (.int (K xs i) t, q) := by
  obtain ⟨n, t, hn⟩ := h0 xs[i] (by simp)
  have e : xs[i]? = some xs[i] := getElem?_pos _ i hi
  refine ⟨t, xs[i].2, ?_⟩
  have e2 : xs[i] = (.int n t, xs[i].2) := Prod.ext hn rfl
  unfold PyProof.Rows.K
  rw [e, e2]; rfl

section
variable {prog : Program} {w : World} {A : Around} {E : Value → Shared → Prop} {s : Shared} {a₀ : Array Keyed} {st : SortSt}
theorem wpS_elem {xs : Array Keyed} {i : Nat} {p : Keyed} {Q : Keyed → SortSt → Prop} (e : xs[i]? = some p) (h : Q p st) : wpS (model prog w) A E s (elem' xs i) Q st := by
  rw [elem'_eq, e]; exact wpS_pure h
theorem wpS_ltI {a b : Int} {t u : Tok} {p q : Value} {Q : Option Bool → SortSt → Prop} (hk : kindOf st = oneType') (h : Q (some (decide (a < b))) st) :
    wpS (model prog w) A E s (lt' (.int a t, p) (.int b u, q)) Q st := by
  rw [lt'_eq]
  refine wpS_bind (wpS_get ?_)
  rw [hk, keyLt'_oneType]
  refine wpS_bind (wpS_lift (wpAny_attempt (oneLt_int ⟨rfl, ?_⟩)))
  exact wpS_pure h
/-- how a gallop asks -/
def Bey (left : Bool) (x y : Int) : Bool := if left then decide (x < y) else !decide (y < x)
theorem Bey.mono {left : Bool} {x x' y : Int} (h : x' ≤ x) (b : Bey left x y = true) : Bey left x' y = true := by
  unfold Bey at b ⊢; cases left <;> simp at b ⊢ <;> lia
theorem wpS_bey {left : Bool} {arr : Array Keyed} {j : Nat} {y : Int} {u : Tok} {q : Value} {Q : Option Bool → SortSt → Prop} (hk : kindOf st = oneType') (h0 : IntKeys arr) (hj : j < arr.size)
    (h : Q (some (Bey left (K arr j) y)) st) :
    wpS (model prog w) A E s (do
      let x ← elem' arr j
      if left = true then lt' x (.int y u, q) else do
        let z ← lt' (.int y u, q) x
        pure (Option.map (fun x => !x) z)) Q st := by
  obtain ⟨t, p, e⟩ := intAt h0 hj
  refine wpS_bind (wpS_elem e ?_)
  cases left with
  | true => rw [if_pos rfl]; exact wpS_ltI hk h
  | false => rw [if_neg (by decide)]; exact wpS_bind (wpS_ltI hk (wpS_pure h))

theorem wpS_gallop {left : Bool} {arr : Array Keyed} {base n hint : Nat} {y : Int} {u : Tok} {q : Value} {Q : Option Nat → SortSt → Prop} (hk : kindOf st = oneType') (h0 : IntKeys arr) (hn : base + n ≤ arr.size) (hh : hint < n)
    (hs : ∀ i j, i ≤ j → j < n → K arr (base + i) ≤ K arr (base + j))
    (h : ∀ k, k ≤ n → (∀ i, i < k → Bey left (K arr (base + i)) y = true) → (∀ i, k ≤ i → i < n → Bey left (K arr (base + i)) y = false) → Q (some k) st) :
    wpS (model prog w) A E s (gallop' left (.int y u, q) arr base n hint) Q st := by
  have up : ∀ {i j : Nat}, i ≤ j → j < n → Bey left (K arr (base + j)) y = true → Bey left (K arr (base + i)) y = true := fun a b c => Bey.mono (hs _ _ a b) c
  have dn : ∀ {i j : Nat}, i ≤ j → j < n → Bey left (K arr (base + i)) y = false → Bey left (K arr (base + j)) y = false := fun {i j} a b c => by
    cases e : Bey left (K arr (base + j)) y with
    | false => rfl
    | true => rw [up a b e] at c; exact nomatch c
  refine wpS_from ?_
  wp_delta
  wp_delta
  refine wpS_to ?_
  refine wpS_bind (wpS_bey hk h0 (by lia) ?_)
  dsimp -zeta only
  extract_lets jp m1 m2
  have hjp : ∀ r a b lo hi, lo ≤ hi → hi ≤ n → (∀ i, i < lo → Bey left (K arr (base + i)) y = true) → (∀ i, hi ≤ i → i < n → Bey left (K arr (base + i)) y = false) → wpS (model prog w) A E s (jp r a b lo hi) Q st := by
    intro r a b lo hi h1 h2 h3 h4
    dsimp only [jp]
    refine wpS_bind (wpS_mono (wpS_forRange
      (I := fun x c st' => st' = st ∧ ∃ l r, c = (none, l, r) ∧ l ≤ r ∧ r ≤ n ∧ r - l ≤ n - x ∧ (∀ i, i < l → Bey left (K arr (base + i)) y = true) ∧ (∀ i, r ≤ i → i < n → Bey left (K arr (base + i)) y = false))
      (Q := fun c st' => st' = st ∧ ∃ l, c = (none, l, l) ∧ l ≤ n ∧ (∀ i, i < l → Bey left (K arr (base + i)) y = true) ∧ (∀ i, l ≤ i → i < n → Bey left (K arr (base + i)) y = false)) ?_ ?_ ⟨rfl, lo, hi, rfl, h1, h2, by lia, h3, h4⟩) ?_)
    · rintro x c st' _ hx ⟨rfl, l, r, rfl, a1, a2, a3, a4, a5⟩
      dsimp only
      by_cases hg : l ≥ r
      · rw [if_pos hg]
        obtain rfl : l = r := by lia
        exact wpS_pure ⟨rfl, l, rfl, a2, a4, a5⟩
      · rw [if_neg hg]
        refine wpS_bind (wpS_bey hk h0 (by lia) ?_)
        cases e : Bey left (K arr (base + (l + (r - l) / 2))) y with
        | true => exact wpS_pure ⟨rfl, _, r, rfl, by lia, a2, by (exact nz10 (by assumption) (by assumption) (by assumption) (by assumption)), fun i hi => up (show i ≤ l + (r - l) / 2 by lia) (by lia) e, a5⟩
        | false => exact wpS_pure ⟨rfl, l, _, rfl, by lia, by lia, by (exact nz11 (by assumption) (by assumption) (by assumption) (by assumption)), a4, fun i hi hin => dn hi hin e⟩
    · rintro c st' ⟨rfl, l, r, rfl, a1, a2, a3, a4, a5⟩
      obtain rfl : l = r := by lia
      exact ⟨rfl, l, rfl, a2, a4, a5⟩
    · rintro c st' ⟨rfl, l, rfl, a2, a4, a5⟩
      exact wpS_pure (h l a2 a4 a5)
  clear_value jp
  cases e : Bey left (K arr (base + hint)) y with
  | true =>
    rw [if_pos rfl]
    dsimp only
    refine wpS_bind (wpS_mono (wpS_forRange
      (I := fun x c st' => st' = st ∧ ∃ l o, c = (none, l, o) ∧ l < o ∧ x < o ∧ hint + l < n ∧ Bey left (K arr (base + (hint + l))) y = true)
      (Q := fun c st' => st' = st ∧ ∃ l o, c = (none, l, o) ∧ l < o ∧ hint + l < n ∧ Bey left (K arr (base + (hint + l))) y = true ∧ (hint + o < n → Bey left (K arr (base + (hint + o))) y = false)) ?_ ?_ ⟨rfl, 0, 1, rfl, by lia, by lia, by lia, e⟩) ?_)
    · rintro x c st' _ hx ⟨rfl, l, o, rfl, a1, a2, a3, a4⟩
      dsimp only
      by_cases hg : o ≥ m1
      · rw [if_pos hg]
        exact wpS_pure ⟨rfl, l, o, rfl, a1, a3, a4, fun hc => by lia⟩
      · rw [if_neg hg]
        refine wpS_bind (wpS_bey hk h0 (by lia) ?_)
        cases e : Bey left (K arr (base + (hint + o))) y with
        | true => exact wpS_pure ⟨rfl, o, _, rfl, by lia, by lia, by lia, e⟩
        | false => exact wpS_pure ⟨rfl, l, o, rfl, a1, a3, a4, fun _ => e⟩
    · rintro c st' ⟨rfl, l, o, rfl, a1, a2, a3, a4⟩
      exact ⟨rfl, l, o, rfl, a1, a3, a4, fun hc => by lia⟩
    · rintro c st' ⟨rfl, l, o, rfl, a1, a3, a4, a5⟩
      dsimp only
      refine hjp _ _ _ _ _ (by lia) (by lia) (fun i hi => up (show i ≤ hint + l by lia) a3 a4) fun i hi hin => dn (show hint + o ≤ i by lia) hin (a5 (by lia))
  | false =>
    rw [if_neg (by decide)]
    dsimp only
    refine wpS_bind (wpS_mono (wpS_forRange
      (I := fun x c st' => st' = st ∧ ∃ l o, c = (none, l, o) ∧ l < o ∧ x < o ∧ l ≤ hint ∧ Bey left (K arr (base + (hint - l))) y = false)
      (Q := fun c st' => st' = st ∧ ∃ l o, c = (none, l, o) ∧ l < o ∧ l ≤ hint ∧ Bey left (K arr (base + (hint - l))) y = false ∧ (o ≤ hint → Bey left (K arr (base + (hint - o))) y = true)) ?_ ?_ ⟨rfl, 0, 1, rfl, by lia, by lia, by lia, e⟩) ?_)
    · rintro x c st' _ hx ⟨rfl, l, o, rfl, a1, a2, a3, a4⟩
      dsimp only
      by_cases hg : o ≥ m2
      · rw [if_pos hg]
        exact wpS_pure ⟨rfl, l, o, rfl, a1, a3, a4, fun hc => by lia⟩
      · rw [if_neg hg]
        refine wpS_bind (wpS_bey hk h0 (by lia) ?_)
        cases e : Bey left (K arr (base + (hint - o))) y with
        | true => exact wpS_pure ⟨rfl, l, o, rfl, a1, a3, a4, fun _ => e⟩
        | false => exact wpS_pure ⟨rfl, o, _, rfl, by lia, by lia, by lia, e⟩
    · rintro c st' ⟨rfl, l, o, rfl, a1, a2, a3, a4⟩
      exact ⟨rfl, l, o, rfl, a1, a3, a4, fun hc => by lia⟩
    · rintro c st' ⟨rfl, l, o, rfl, a1, a3, a4, a5⟩
      dsimp only
      refine hjp _ _ _ _ _ (by (exact nz13 (by assumption) (by assumption))) (by lia) (fun i hi => up (show i ≤ hint - o by (exact nz14 (by assumption))) (by lia) (a5 (by (exact nz15 (by assumption))))) fun i hi hin => dn (show hint - l ≤ i by lia) hin a4

end
abbrev keyI (p : Keyed) : Int := numOf p.1
theorem K_get {xs : Array Keyed} {i : Nat} (hi : i < xs.size) : K xs i = keyI xs[i] := by unfold K; rw [getElem?_pos xs i hi]
theorem Srt.at {xs : Array Keyed} (h : Srt keyI xs.toList) {i j : Nat} (hij : i ≤ j) (hj : j < xs.size) : K xs i ≤ K xs j := by
  rcases Nat.lt_or_eq_of_le hij with hlt | rfl
  · rw [K_get (by lia), K_get hj]
    have := List.pairwise_iff_getElem.mp h i j (by simpa using (by lia : i < xs.size)) (by simpa using hj) hlt
    simpa using this
  · exact Int.le_refl _
theorem drop_at {xs : Array Keyed} {i : Nat} (hi : i < xs.size) : xs.toList.drop i = xs[i] :: xs.toList.drop (i + 1) := by
  rw [List.drop_eq_getElem_cons (by simpa using hi)]; simp
theorem take_at {xs : Array Keyed} {i : Nat} (hi : i < xs.size) : xs.toList.take (i + 1) = xs.toList.take i ++ [xs[i]] := by
  rw [List.take_succ_eq_append_getElem (by simpa using hi)]; simp
theorem drop_all {xs : Array Keyed} {i : Nat} (hi : i = xs.size) : xs.toList.drop i = [] := List.drop_eq_nil_of_le (by simp; lia)
/-- all that is left lies above the first that is left -/
theorem Srt.below {l : List Keyed} {p : Keyed} {r : List Keyed} (h : Srt keyI l) (e : l = p :: r) {T : List Keyed} (hT : ∀ q ∈ T, keyI q ≤ keyI p) : Low keyI T l := by
  subst e
  intro q hq x hx
  rcases List.mem_cons.mp hx with rfl | hx
  · exact hT q hq
  · exact Int.le_trans (hT q hq) ((List.pairwise_cons.mp h).1 x hx)
theorem Srt.above {l : List Keyed} {p : Keyed} {r : List Keyed} (h : Srt keyI l) (e : l = r ++ [p]) {T : List Keyed} (hT : ∀ q ∈ T, keyI p ≤ keyI q) : Low keyI l T := by
  subst e
  intro x hx q hq
  rcases List.mem_append.mp hx with hx | hx
  · exact Int.le_trans (h.split.2.2 x hx p (List.mem_singleton.mpr rfl)) (hT q hq)
  · rw [List.mem_singleton.mp hx]; exact hT q hq
theorem mem_seg {xs : Array Keyed} {i k : Nat} {q : Keyed} (h : q ∈ (xs.toList.drop i).take k) : ∃ j, j < k ∧ i + j < xs.size ∧ keyI q = K xs (i + j) := by
  obtain ⟨j, hj, rfl⟩ := List.mem_iff_getElem.mp h
  simp at hj
  exact ⟨j, by lia, by lia, by rw [K_get (by lia)]; simp⟩

structure Same (st st' : SortSt) : Prop where
  kind : kindOf st' = kindOf st
  arr : arrOf st' = arrOf st
  pend : pendingOf st' = pendingOf st
  failed : failedOf st' = failedOf st
theorem Same.refl (st : SortSt) : Same st st := ⟨rfl, rfl, rfl, rfl⟩
theorem Same.trans {a b c : SortSt} (h : Same a b) (k : Same b c) : Same a c := ⟨k.kind.trans h.kind, k.arr.trans h.arr, k.pend.trans h.pend, k.failed.trans h.failed⟩
def setMG' : Nat → StateT SortSt Sem Unit := sortPriv% PySem.Builtin.setMinGallop

section
variable {a b : Array Keyed}
def ML (a b out : Array Keyed) (ia ib : Nat) : Prop := MI keyI a.toList b.toList out.toList (a.toList.drop ia) (b.toList.drop ib)
def MRes (a b r : Array Keyed) : Prop := r.toList.Perm (a.toList ++ b.toList) ∧ Srt keyI r.toList
theorem ML.seg {xs : Array Keyed} {i k : Nat} : xs.toList.drop i = (xs.toList.drop i).take k ++ xs.toList.drop (i + k) := by
  rw [← List.drop_drop, List.take_append_drop]
theorem ML.takeA {out : Array Keyed} {ia ib k : Nat} (h : ML a b out ia ib) (hb : ib < b.size) (c : ∀ j, j < k → ia + j < a.size → K a (ia + j) ≤ K b ib) : ML a b (out ++ a.extract ia (ia + k)) (ia + k) ib := by
  unfold ML at h ⊢
  rw [@ML.seg a ia k] at h
  have := h.takeU (h.sv.below (drop_at hb) fun q hq => by
    obtain ⟨j, j1, j2, e⟩ := mem_seg hq
    rw [e, ← K_get hb]; exact c j j1 j2)
  rw [show (out ++ a.extract ia (ia + k)).toList = out.toList ++ (a.toList.drop ia).take k by simp [List.extract_eq_take_drop]]
  exact this
theorem ML.takeB {out : Array Keyed} {ia ib k : Nat} (h : ML a b out ia ib) (ha : ia < a.size) (c : ∀ j, j < k → ib + j < b.size → K b (ib + j) ≤ K a ia) : ML a b (out ++ b.extract ib (ib + k)) ia (ib + k) := by
  unfold ML at h ⊢
  rw [@ML.seg b ib k] at h
  have := h.takeV (h.su.below (drop_at ha) fun q hq => by
    obtain ⟨j, j1, j2, e⟩ := mem_seg hq
    rw [e, ← K_get ha]; exact c j j1 j2)
  rw [show (out ++ b.extract ib (ib + k)).toList = out.toList ++ (b.toList.drop ib).take k by simp [List.extract_eq_take_drop]]
  exact this
theorem push_ext {out xs : Array Keyed} {i : Nat} {p : Keyed} (e : xs[i]? = some p) : out.push p = out ++ xs.extract i (i + 1) := by
  obtain ⟨hi, rfl⟩ := Array.getElem?_eq_some_iff.mp e
  apply Array.toList_inj.mp
  simp [List.extract_eq_take_drop]
  rw [List.drop_eq_getElem_cons (by simpa using hi)]; simp
theorem ext_all (xs : Array Keyed) (i : Nat) : (xs.extract i).toList = xs.toList.drop i := by
  simp only [Array.toList_extract, List.extract_eq_take_drop]
  exact List.take_of_length_le (by simp)
theorem ML.done {out : Array Keyed} {ia ib : Nat} (h : ML a b out ia ib) (e : ib = b.size) : MRes a b (out ++ a.extract ia ++ b.extract ib) := by
  unfold ML at h
  rw [drop_all e] at h
  have := h.endU
  unfold MRes
  rw [show (out ++ a.extract ia ++ b.extract ib).toList = out.toList ++ a.toList.drop ia by rw [Array.toList_append, Array.toList_append, ext_all, ext_all, drop_all e]; simp]
  exact this
theorem ML.done' {out : Array Keyed} {ia ib : Nat} (h : ML a b out ia ib) (e : ia = a.size) : MRes a b (out ++ a.extract ia ++ b.extract ib) := by
  unfold ML at h
  rw [drop_all e] at h
  have := h.endV
  unfold MRes
  rw [show (out ++ a.extract ia ++ b.extract ib).toList = out.toList ++ b.toList.drop ib by rw [Array.toList_append, Array.toList_append, ext_all, ext_all, drop_all e]; simp]
  exact this
theorem ML.last {out : Array Keyed} {ia ib : Nat} (h : ML a b out ia ib) (hba : ∀ q ∈ b.toList, keyI q ≤ K a (a.size - 1)) (e : ia + 1 = a.size) : MRes a b (out ++ b.extract ib ++ a.extract ia) := by
  unfold ML at h
  have := h.endVU (h.su.below (drop_at (by lia)) fun q hq => by
    have := hba q (List.mem_of_mem_drop hq)
    rw [show a.size - 1 = ia by lia, K_get (by lia)] at this; exact this)
  unfold MRes
  rw [show (out ++ b.extract ib ++ a.extract ia).toList = out.toList ++ b.toList.drop ib ++ a.toList.drop ia by rw [Array.toList_append, Array.toList_append, ext_all, ext_all]]
  exact this
theorem Bey.le {x y : Int} (h : Bey false x y = true) : x ≤ y := by unfold Bey at h; simp at h; exact h
theorem Bey.lt {x y : Int} (h : Bey true x y = true) : x < y := by unfold Bey at h; simpa using h
theorem Bey.nle {x y : Int} (h : Bey false x y = false) : y < x := by unfold Bey at h; simp at h; exact h
theorem Bey.nlt {x y : Int} (h : Bey true x y = false) : y ≤ x := by unfold Bey at h; simpa using h
end

section
variable {prog : Program} {w : World} {A : Around} {E : Value → Shared → Prop} {s : Shared} {st : SortSt} {a b : Array Keyed}
theorem wpS_post {α : Type} {m : StateT SortSt Sem α} {Q : α → SortSt → Prop} (H : (α → SortSt → Prop) → Prop) (hq : H Q) (h : ∀ P, H P → wpS (model prog w) A E s m P st) : wpS (model prog w) A E s m Q st := h Q hq
theorem wpS_setMG {g : Nat} {Q : Unit → SortSt → Prop} (h : ∀ st', Same st st' → Q () st') : wpS (model prog w) A E s (setMG' g) Q st := by
  refine wpS_from ?_
  wp_delta
  wp_delta
  refine wpS_to ?_
  exact wpS_modify (h _ ⟨rfl, rfl, rfl, rfl⟩)
theorem wpS_rule {r : String} {Q : Unit → SortSt → Prop} (h : Q () st) : wpS (model prog w) A E s (liftM (rule r) : StateT SortSt Sem Unit) Q st := wpS_lift (wpAny_rule ⟨rfl, h⟩)

structure Going (a b : Array Keyed) (N : Nat) (out : Array Keyed) (ia ib : Nat) : Prop where
  ml : ML a b out ia ib
  ha : ia + 1 < a.size
  hb : ib < b.size
  hn : N ≤ ia + ib
theorem wpS_elemI {xs : Array Keyed} {i : Nat} {Q : Keyed → SortSt → Prop} (h0 : IntKeys xs) (hi : i < xs.size) (h : ∀ t q, xs[i]? = some (.int (K xs i) t, q) → Q (.int (K xs i) t, q) st) : wpS (model prog w) A E s (elem' xs i) Q st := by
  obtain ⟨t, q, e⟩ := intAt h0 hi
  exact wpS_elem e (h t q e)
/-- the ends of a merge's loops: handed back, or going on -/
inductive MQ {β : Type} (st : SortSt) (a b : Array Keyed) (P : β → Prop) : Option (Array Keyed) × β → SortSt → Prop
  | res {r c st'} : Same st st' → MRes a b r → MQ st a b P (some r, c) st'
  | go {c st'} : Same st st' → P c → MQ st a b P (none, c) st'
inductive MG {β : Type} (st : SortSt) (P : β → Prop) : Option (Array Keyed) × β → SortSt → Prop
  | go {c st'} : Same st st' → P c → MG st P (none, c) st'
inductive P4 (a b : Array Keyed) (N : Nat) : Array Keyed × Nat × Nat × Nat → Prop
  | mk {out ia ib mg} : Going a b N out ia ib → P4 a b N (out, ia, ib, mg)
inductive P5 (a b : Array Keyed) (N : Nat) : Array Keyed × Nat × Nat × Nat × Nat → Prop
  | mk {out ia ib ac bc} : Going a b N out ia ib → P5 a b N (out, ia, ib, ac, bc)
inductive P6 (a b : Array Keyed) (N : Nat) : Array Keyed × Nat × Nat × Nat × Nat × Nat → Prop
  | mk {out ia ib mg ac bc} : Going a b N out ia ib → P6 a b N (out, ia, ib, mg, ac, bc)
theorem one_of {j : Nat} (h : j < 1) : j = 0 := Nat.lt_one_iff.mp h
theorem Going.stepB {a b out : Array Keyed} {N ia ib : Nat} {p : Keyed} (G : Going a b N out ia ib) (e : b[ib]? = some p) (h : K b ib ≤ K a ia) : ML a b (out.push p) ia (ib + 1) := by
  rw [push_ext e]
  exact G.ml.takeB (k := 1) (Nat.lt_of_succ_lt G.ha) fun j hj _ => by rw [one_of hj]; exact h
theorem Going.stepA {a b out : Array Keyed} {N ia ib : Nat} {p : Keyed} (G : Going a b N out ia ib) (e : a[ia]? = some p) (h : K a ia ≤ K b ib) : ML a b (out.push p) (ia + 1) ib := by
  rw [push_ext e]
  exact G.ml.takeA (k := 1) G.hb fun j hj _ => by rw [one_of hj]; exact h
theorem eqb {x y : Nat} (h : x = y) : (x == y) = true := by rw [h]; exact beq_self_eq_true y
theorem wpS_ite {α : Type} {c : Prop} [Decidable c] {m n : StateT SortSt Sem α} {Q : α → SortSt → Prop} (h1 : c → wpS (model prog w) A E s m Q st) (h2 : ¬ c → wpS (model prog w) A E s n Q st) : wpS (model prog w) A E s (if c then m else n) Q st := by
  by_cases h : c
  · rw [if_pos h]; exact h1 h
  · rw [if_neg h]; exact h2 h
theorem wpS_ieq {α : Type} {x y : Nat} {m n : StateT SortSt Sem α} {Q : α → SortSt → Prop} (h1 : x = y → wpS (model prog w) A E s m Q st) (h2 : x ≠ y → wpS (model prog w) A E s n Q st) : wpS (model prog w) A E s (if (x == y) = true then m else n) Q st :=
  wpS_ite (fun h => h1 (beq_iff_eq.mp h)) fun h => h2 fun q => h (eqb q)
theorem wpS_idec {α : Type} {c : Prop} [Decidable c] {m n : StateT SortSt Sem α} {Q : α → SortSt → Prop} (h1 : c → wpS (model prog w) A E s m Q st) (h2 : ¬ c → wpS (model prog w) A E s n Q st) : wpS (model prog w) A E s (if decide c = true then m else n) Q st :=
  wpS_ite (fun h => h1 (of_decide_eq_true h)) fun h => h2 fun q => h (decide_eq_true q)
theorem wpS_mergeLo {Q : Array Keyed → SortSt → Prop} (hk : kindOf st = oneType') (ia0 : IntKeys a) (ib0 : IntKeys b) (sa : Srt keyI a.toList) (sb : Srt keyI b.toList) (ha : 0 < a.size) (hb : 0 < b.size)
    (h00 : K b 0 ≤ K a 0) (hba : ∀ q ∈ b.toList, keyI q ≤ K a (a.size - 1)) (h : ∀ r st', Same st st' → MRes a b r → Q r st') : wpS (model prog w) A E s (mergeLo' a b) Q st := by
  have start : ∀ p, b[0]? = some p → ML a b #[p] 0 1 := fun p e => by
    have m0 : ML a b #[] 0 0 := ⟨List.Perm.refl _, List.Pairwise.nil, sa, sb, Low.nil', Low.nil'⟩
    have := m0.takeB (k := 1) ha fun j hj _ => by rw [one_of hj]; exact h00
    rw [← push_ext e] at this
    exact this
  refine wpS_from ?_
  wp_delta
  wp_delta
  refine wpS_to ?_
  refine wpS_bind (wpS_rule ?_)
  refine wpS_bind (wpS_elemI ib0 hb fun t0 q0 e0 => ?_)
  replace start := start _ e0
  refine wpS_ieq (fun c1 => wpS_pure (h _ _ (.refl _) (start.done c1))) fun c1 => ?_
  refine wpS_ieq (fun c2 => wpS_pure (h _ _ (.refl _) (start.last hba c2))) fun c2 => ?_
  refine wpS_bind (wpS_get ?_)
  refine wpS_bind (wpS_mono (wpS_forRange (I := fun x => MG st (P4 a b (x + 1))) (Q := MQ st a b fun _ => False) ?_ ?_ (.go (.refl _) (.mk ⟨start, by lia, by lia, by lia⟩))) ?_)
  rotate_left
  · rintro _ _ ⟨_, ⟨G⟩⟩
    have := G.ha
    have := G.hb
    have := G.hn
    lia
  · rintro _ _ (⟨S, R⟩ | ⟨_, F⟩)
    · exact wpS_pure (h _ _ S R)
    · exact F.elim
  clear start e0 c1 c2
  rintro x _ st1 _ hx ⟨S, ⟨G⟩⟩
  rename_i out ia ib mg
  refine wpS_bind (wpS_mono (wpS_forRange (I := fun y => MG st (P5 a b (x + 1 + y))) (Q := MQ st a b (P5 a b (x + 2))) ?_ ?_ (.go S (.mk G))) ?_)
  rotate_left
  · rintro _ _ ⟨S, ⟨G⟩⟩
    exact .go S (.mk ⟨G.ml, G.ha, G.hb, by have := G.hn; lia⟩)
  rotate_left
  · clear G S
    rintro y _ st2 _ hy ⟨S, ⟨G⟩⟩
    refine wpS_bind (wpS_elemI ib0 G.hb fun t1 q1 e1 => ?_)
    refine wpS_bind (wpS_elemI ia0 (Nat.lt_of_succ_lt G.ha) fun t2 q2 e2 => ?_)
    refine wpS_bind (wpS_ltI (S.kind.trans hk) ?_)
    have hn := G.hn
    have ha := G.ha
    have hb := G.hb
    refine wpS_idec (fun hw => wpS_bind (wpS_elem e1 ?_)) fun hw => wpS_bind (wpS_elem e2 ?_)
    · have L := G.stepB e1 (Int.le_of_lt hw)
      refine wpS_ieq (fun c1 => wpS_pure (.res S (L.done c1))) fun c1 => ?_
      exact wpS_ite (fun _ => wpS_pure (.go S (.mk ⟨L, ha, by lia, by lia⟩))) fun _ => wpS_pure (.go S (.mk ⟨L, ha, by lia, by lia⟩))
    · have L := G.stepA e2 (Int.not_lt.mp hw)
      refine wpS_ieq (fun c1 => wpS_pure (.res S (L.last hba c1))) fun c1 => ?_
      exact wpS_ite (fun _ => wpS_pure (.go S (.mk ⟨L, by lia, hb, by lia⟩))) fun _ => wpS_pure (.go S (.mk ⟨L, by lia, hb, by lia⟩))
  clear G S
  rintro _ st2 (⟨S, R⟩ | ⟨S, ⟨G⟩⟩)
  · exact wpS_pure (.res S R)
  refine wpS_bind (wpS_rule ?_)
  refine wpS_bind (wpS_mono (wpS_forRange (I := fun _ => MG st (P6 a b (x + 2))) (Q := MQ st a b (P6 a b (x + 2))) ?_ ?_ (.go S (.mk G))) ?_)
  rotate_left
  · rintro _ _ ⟨S, G⟩
    exact .go S G
  · rintro _ st3 (⟨S, R⟩ | ⟨S, ⟨G⟩⟩)
    · exact wpS_pure (.res S R)
    · exact wpS_bind (wpS_setMG fun st4 S4 => wpS_pure (.go (S.trans S4) (.mk G)))
  clear G S
  rintro y _ st3 _ hy ⟨S, ⟨G⟩⟩
  rename_i out ia ib mg ac bc
  refine wpS_post (fun P => (∀ r c st', Same st st' → MRes a b r → P (.done (some r, c)) st') ∧ ∀ c st', Same st st' → P6 a b (x + 2) c → P (.done (none, c)) st' ∧ P (.yield (none, c)) st')
    ⟨fun r c st' S R => .res S R, fun c st' S G => ⟨.go S G, .go S G⟩⟩ fun P hP => ?_
  have pr := hP.1
  have pg := hP.2
  clear hP
  have ha := G.ha
  have hb := G.hb
  have hn := G.hn
  extract_lets -merge t1 outv t2 iav t3 ibv t4 mgv t5 acv bcv ib1 jp mg1
  have hjp : ∀ r mg, wpS (model prog w) A E s (jp r mg) P st3 := by
    intro r mg'
    refine wpS_bind (wpS_setMG fun st4 S4 => ?_)
    replace S := S.trans S4; clear S4
    refine wpS_bind (wpS_elemI ib0 hb fun t1 q1 e1 => ?_)
    refine wpS_bind (wpS_gallop (S.kind.trans hk) ia0 (base := ia) (n := a.size - ia) (by lia) (by lia) (fun i j hij hj => sa.at (Nat.add_le_add_left hij _) (by lia)) fun k k1 k2 k3 => ?_)
    replace k3 : ∀ i, k ≤ i → i < a.size - ia → K b ib ≤ K a (ia + i) := fun i hi hj => Int.le_of_lt (Bey.nle (k3 i hi hj))
    dsimp -zeta only
    extract_lets -merge ac2 jp2 out1 ia1
    have L1 := G.ml.takeA (k := k) hb fun j hj _ => Bey.le (k2 j hj)
    have hjp2 : ∀ r out ia', ML a b out ia' ib → ia ≤ ia' → ia' + 1 < a.size → K b ib ≤ K a ia' → wpS (model prog w) A E s (jp2 r out ia') P st4 := by
      clear L1
      intro r out ia' L l1 l2 hle
      refine wpS_bind (wpS_elem e1 ?_)
      have L2 := Going.stepB (N := 0) ⟨L, l2, hb, Nat.zero_le _⟩ e1 hle
      refine wpS_ieq (fun c1 => wpS_pure (pr _ _ _ S (L2.done c1))) fun c1 => ?_
      refine wpS_bind (wpS_elemI ia0 (Nat.lt_of_succ_lt l2) fun t2 q2 e2 => ?_)
      refine wpS_bind (wpS_gallop (S.kind.trans hk) ib0 (base := ib + 1) (n := b.size - (ib + 1)) (by (exact Nat.le_of_eq (Nat.add_sub_cancel' (by assumption)))) (by lia) (fun i j hij hj => sb.at (Nat.add_le_add_left hij _) (by lia)) fun m m1 m2 m3 => ?_)
      replace m3 : ∀ i, m ≤ i → i < b.size - (ib + 1) → K a ia' ≤ K b (ib + 1 + i) := fun i hi hj => Bey.nlt (m3 i hi hj)
      dsimp -zeta only
      extract_lets -merge bc2 ia2 jp3 out2 ib2
      have L3 := L2.takeB (k := m) (Nat.lt_of_succ_lt l2) fun j hj _ => Int.le_of_lt (Bey.lt (m2 j hj))
      have hjp3 : ∀ r out ib', ML a b out ia' ib' → ib < ib' → ib' < b.size → (K a ia' ≤ K b ib') → wpS (model prog w) A E s (jp3 r out ib') P st4 := by
        clear L3 L2 L
        intro r out ib' L l3 l4 l5
        refine wpS_bind (wpS_elem e2 ?_)
        have L4 := Going.stepA (N := 0) ⟨L, l2, l4, Nat.zero_le _⟩ e2 l5
        refine wpS_ieq (fun c2 => wpS_pure (pr _ _ _ S (L4.last hba c2))) fun c2 => ?_
        have G' := pg _ st4 S (.mk (mg := mg') (ac := ac2) (bc := bc2) ⟨L4, by lia, l4, by lia⟩)
        exact wpS_ite (fun _ => wpS_pure G'.1) fun _ => wpS_pure G'.2
      clear_value jp3
      refine wpS_ite (fun c3 => ?_) fun c3 => hjp3 _ _ (ib + 1) L2 (Nat.lt_succ_self _) (by lia) (m3 0 (by lia) (by lia))
      exact wpS_ieq (fun c4 => wpS_pure (pr _ _ _ S (L3.done c4))) fun c4 => hjp3 _ _ (ib + 1 + m) L3 (by lia) (by lia) (m3 m (Nat.le_refl _) (by lia))
    clear_value jp2
    refine wpS_ite (fun c3 => ?_) fun c3 => hjp2 _ _ ia G.ml (Nat.le_refl _) ha (k3 0 (by lia) (by lia))
    refine wpS_ieq (fun c4 => wpS_pure (pr _ _ _ S (L1.last hba c4))) fun c4 => ?_
    exact wpS_ieq (fun c5 => wpS_pure (pr _ _ _ S (L1.done' c5))) fun c5 => hjp2 _ _ (ia + k) L1 (Nat.le_add_right _ _) (by lia) (k3 k (Nat.le_refl _) (by lia))
  clear_value jp
  exact wpS_ite (fun _ => hjp _ _) fun _ => hjp _ _
end

section
variable {a b : Array Keyed}
def MR (a b out : Array Keyed) (na nb : Nat) : Prop := MH keyI a.toList b.toList (a.toList.take na) (b.toList.take nb) out.toList.reverse
theorem ext_seg (xs : Array Keyed) (i j : Nat) : (xs.extract i j).toList = (xs.toList.drop i).take (j - i) := by simp [List.extract_eq_take_drop]
theorem MR.seg {xs : Array Keyed} {i j : Nat} (h : i ≤ j) : xs.toList.take j = xs.toList.take i ++ (xs.extract i j).toList := by
  rw [ext_seg, ← List.drop_take]
  have := List.take_append_drop i (xs.toList.take j)
  rw [List.take_take, Nat.min_eq_left h] at this
  exact this.symm
theorem MR.mem {xs : Array Keyed} {i j : Nat} {q : Keyed} (h : q ∈ (xs.extract i j).toList) : ∃ k, i ≤ k ∧ k < j ∧ keyI q = K xs k := by
  rw [ext_seg] at h
  obtain ⟨k, k1, _, e⟩ := mem_seg h
  exact ⟨i + k, by lia, by lia, e⟩
theorem take_last {xs : Array Keyed} {n : Nat} (h0 : 0 < n) (h : n ≤ xs.size) : xs.toList.take n = xs.toList.take (n - 1) ++ [xs[n - 1]'(by lia)] := by
  have := take_at (xs := xs) (i := n - 1) (by lia)
  rwa [show n - 1 + 1 = n by lia] at this
theorem MR.takeA {out : Array Keyed} {na nb i : Nat} (h : MR a b out na nb) (hi : i ≤ na) (b0 : 0 < nb) (hb : nb ≤ b.size) (c : ∀ j, i ≤ j → j < na → K b (nb - 1) ≤ K a j) : MR a b (out ++ (a.extract i na).reverse) i nb := by
  unfold MR at h ⊢
  rw [MR.seg hi] at h
  have := h.takeU (h.sv.above (take_last b0 hb) fun q hq => by
    obtain ⟨k, k1, k2, e⟩ := MR.mem hq
    rw [e, ← K_get (by lia)]; exact c k k1 k2)
  rw [show (out ++ (a.extract i na).reverse).toList.reverse = (a.extract i na).toList ++ out.toList.reverse by simp]
  exact this
theorem MR.takeB {out : Array Keyed} {na nb i : Nat} (h : MR a b out na nb) (hi : i ≤ nb) (a0 : 0 < na) (ha : na ≤ a.size) (c : ∀ j, i ≤ j → j < nb → K a (na - 1) ≤ K b j) : MR a b (out ++ (b.extract i nb).reverse) na i := by
  unfold MR at h ⊢
  rw [@MR.seg b i nb hi] at h
  have := h.takeV (h.su.above (take_last a0 ha) fun q hq => by
    obtain ⟨k, k1, k2, e⟩ := MR.mem hq
    rw [e, ← K_get (by lia)]; exact c k k1 k2)
  rw [show (out ++ (b.extract i nb).reverse).toList.reverse = (b.extract i nb).toList ++ out.toList.reverse by simp]
  exact this
theorem push_rev {out xs : Array Keyed} {i n : Nat} {p : Keyed} (e : xs[i]? = some p) (hn : n = i + 1) : out.push p = out ++ (xs.extract i n).reverse := by
  subst hn
  obtain ⟨hi, rfl⟩ := Array.getElem?_eq_some_iff.mp e
  apply Array.toList_inj.mp
  rw [Array.toList_append, Array.toList_reverse, ext_seg]
  rw [List.drop_eq_getElem_cons (by simpa using hi)]; simp
theorem MR.done {out : Array Keyed} {na nb : Nat} (h : MR a b out na nb) (e : na = 0) : MRes a b (a.extract 0 na ++ b.extract 0 nb ++ out.reverse) := by
  unfold MR at h
  subst e
  have := h.endV
  unfold MRes
  rw [show (a.extract 0 0 ++ b.extract 0 nb ++ out.reverse).toList = b.toList.take nb ++ out.toList.reverse by rw [Array.toList_append, Array.toList_append, ext_seg, ext_seg, Array.toList_reverse]; simp]
  exact this
theorem MR.done' {out : Array Keyed} {na nb : Nat} (h : MR a b out na nb) (e : nb = 0) : MRes a b (a.extract 0 na ++ b.extract 0 nb ++ out.reverse) := by
  unfold MR at h
  subst e
  have := h.endU
  unfold MRes
  rw [show (a.extract 0 na ++ b.extract 0 0 ++ out.reverse).toList = a.toList.take na ++ out.toList.reverse by rw [Array.toList_append, Array.toList_append, ext_seg, ext_seg, Array.toList_reverse]; simp]
  exact this
theorem MR.first {out : Array Keyed} {na nb : Nat} (h : MR a b out na nb) (hb : 0 < b.size) (hba : ∀ q ∈ a.toList, K b 0 ≤ keyI q) (e : nb = 1) : MRes a b (b.extract 0 nb ++ a.extract 0 na ++ out.reverse) := by
  unfold MR at h
  subst e
  have := h.endVU (h.sv.above (take_last (by lia) (by (exact nz15 (by assumption)))) fun q hq => by
    have := hba q (List.mem_of_mem_take hq)
    rwa [K_get hb] at this)
  unfold MRes
  rw [show (b.extract 0 1 ++ a.extract 0 na ++ out.reverse).toList = b.toList.take 1 ++ a.toList.take na ++ out.toList.reverse by rw [Array.toList_append, Array.toList_append, ext_seg, ext_seg, Array.toList_reverse]; simp]
  exact this
structure GoingH (a b : Array Keyed) (N : Nat) (out : Array Keyed) (na nb : Nat) : Prop where
  ml : MR a b out na nb
  a0 : 0 < na
  ha : na ≤ a.size
  b0 : 1 < nb
  hb : nb ≤ b.size
  hn : N + na + nb ≤ a.size + b.size
end
section
variable {prog : Program} {w : World} {A : Around} {E : Value → Shared → Prop} {s : Shared} {st : SortSt} {a b : Array Keyed}
inductive H4 (a b : Array Keyed) (N : Nat) : Nat × Nat × Array Keyed × Nat → Prop
  | mk {na nb out mg} : GoingH a b N out na nb → H4 a b N (na, nb, out, mg)
inductive H5 (a b : Array Keyed) (N : Nat) : Nat × Nat × Array Keyed × Nat × Nat → Prop
  | mk {na nb out ac bc} : GoingH a b N out na nb → H5 a b N (na, nb, out, ac, bc)
inductive H6 (a b : Array Keyed) (N : Nat) : Nat × Nat × Array Keyed × Nat × Nat × Nat → Prop
  | mk {na nb out mg ac bc} : GoingH a b N out na nb → H6 a b N (na, nb, out, mg, ac, bc)
theorem last_of {j n : Nat} (h1 : n - 1 ≤ j) (h2 : j < n) : j = n - 1 := Nat.le_antisymm (Nat.le_sub_one_of_lt h2) h1
theorem back_of {n : Nat} (h : 0 < n) : n = n - 1 + 1 := (Nat.sub_add_cancel h).symm
theorem lt_back {n m : Nat} (h : 0 < n) (h' : n ≤ m) : n - 1 < m := Nat.lt_of_lt_of_le (Nat.sub_lt h Nat.one_pos) h'
theorem MR.stepA {a b out : Array Keyed} {na nb : Nat} {p : Keyed} (L : MR a b out na nb) (a0 : 0 < na) (b0 : 0 < nb) (hb : nb ≤ b.size) (e : a[na - 1]? = some p) (h : K b (nb - 1) ≤ K a (na - 1)) : MR a b (out.push p) (na - 1) nb := by
  rw [push_rev e (back_of a0)]
  exact L.takeA (i := na - 1) (Nat.sub_le _ _) b0 hb fun j h1 h2 => by rw [last_of h1 h2]; exact h
theorem MR.stepB {a b out : Array Keyed} {na nb : Nat} {p : Keyed} (L : MR a b out na nb) (b0 : 0 < nb) (a0 : 0 < na) (ha : na ≤ a.size) (e : b[nb - 1]? = some p) (h : K a (na - 1) ≤ K b (nb - 1)) : MR a b (out.push p) na (nb - 1) := by
  rw [push_rev e (back_of b0)]
  exact L.takeB (i := nb - 1) (Nat.sub_le _ _) a0 ha fun j h1 h2 => by rw [last_of h1 h2]; exact h
theorem wpS_mergeHi {Q : Array Keyed → SortSt → Prop} (hk : kindOf st = oneType') (ia0 : IntKeys a) (ib0 : IntKeys b) (sa : Srt keyI a.toList) (sb : Srt keyI b.toList) (ha : 0 < a.size) (hb : 0 < b.size)
    (h00 : K b (b.size - 1) ≤ K a (a.size - 1)) (hba : ∀ q ∈ a.toList, K b 0 ≤ keyI q) (h : ∀ r st', Same st st' → MRes a b r → Q r st') : wpS (model prog w) A E s (mergeHi' a b) Q st := by
  have start : ∀ p, a[a.size - 1]? = some p → MR a b #[p] (a.size - 1) b.size := fun p e => by
    have m0 : MR a b #[] a.size b.size := by
      unfold MR
      rw [List.take_of_length_le (by simp), List.take_of_length_le (by simp)]
      exact ⟨by simp, List.Pairwise.nil, sa, sb, Low.nil, Low.nil⟩
    exact m0.stepA ha hb (Nat.le_refl _) e h00
  refine wpS_from ?_
  wp_delta
  wp_delta
  refine wpS_to ?_
  refine wpS_bind (wpS_rule ?_)
  refine wpS_bind (wpS_elemI ia0 (lt_back ha (Nat.le_refl _)) fun t0 q0 e0 => ?_)
  replace start := start _ e0
  refine wpS_ieq (fun c1 => wpS_pure (h _ _ (.refl _) (start.done c1))) fun c1 => ?_
  refine wpS_ieq (fun c2 => wpS_pure (h _ _ (.refl _) (start.first hb hba c2))) fun c2 => ?_
  refine wpS_bind (wpS_get ?_)
  refine wpS_bind (wpS_mono (wpS_forRange (I := fun x => MG st (H4 a b (x + 1))) (Q := MQ st a b fun _ => False) ?_ ?_ (.go (.refl _) (.mk ⟨start, by lia, by lia, by lia, by lia, by lia⟩))) ?_)
  rotate_left
  · rintro _ _ ⟨_, ⟨G⟩⟩
    have := G.hn
    have := G.a0
    lia
  · rintro _ _ (⟨S, R⟩ | ⟨_, F⟩)
    · exact wpS_pure (h _ _ S R)
    · exact F.elim
  clear start e0 c1 c2
  rintro x _ st1 _ hx ⟨S, ⟨G⟩⟩
  refine wpS_bind (wpS_mono (wpS_forRange (I := fun y => MG st (H5 a b (x + 1 + y))) (Q := MQ st a b (H5 a b (x + 2))) ?_ ?_ (.go S (.mk G))) ?_)
  rotate_left
  · rintro _ _ ⟨S, ⟨G⟩⟩
    exact .go S (.mk ⟨G.ml, G.a0, G.ha, G.b0, G.hb, by have := G.hn; lia⟩)
  rotate_left
  · clear G S
    rintro y _ st2 _ hy ⟨S, ⟨G⟩⟩
    have g1 := G.a0
    have g2 := G.ha
    have g3 := G.b0
    have g4 := G.hb
    have hn := G.hn
    refine wpS_bind (wpS_elemI ib0 (lt_back (Nat.lt_of_succ_lt g3) g4) fun t1 q1 e1 => ?_)
    refine wpS_bind (wpS_elemI ia0 (lt_back g1 g2) fun t2 q2 e2 => ?_)
    refine wpS_bind (wpS_ltI (S.kind.trans hk) ?_)
    refine wpS_idec (fun hw => wpS_bind (wpS_elem e2 ?_)) fun hw => wpS_bind (wpS_elem e1 ?_)
    · have L := G.ml.stepA g1 (Nat.lt_of_succ_lt g3) g4 e2 (Int.le_of_lt hw)
      refine wpS_ieq (fun c1 => wpS_pure (.res S (L.done c1))) fun c1 => ?_
      have a0' := Nat.pos_of_ne_zero c1
      exact wpS_ite (fun _ => wpS_pure (.go S (.mk ⟨L, a0', Nat.le_trans (Nat.sub_le _ _) g2, g3, g4, by lia⟩))) fun _ => wpS_pure (.go S (.mk ⟨L, a0', Nat.le_trans (Nat.sub_le _ _) g2, g3, g4, by lia⟩))
    · have L := G.ml.stepB (Nat.lt_of_succ_lt g3) g1 g2 e1 (Int.not_lt.mp hw)
      refine wpS_ieq (fun c1 => wpS_pure (.res S (L.first hb hba c1))) fun c1 => ?_
      exact wpS_ite (fun _ => wpS_pure (.go S (.mk ⟨L, g1, g2, by lia, Nat.le_trans (Nat.sub_le _ _) g4, by lia⟩))) fun _ => wpS_pure (.go S (.mk ⟨L, g1, g2, by lia, Nat.le_trans (Nat.sub_le _ _) g4, by lia⟩))
  clear G S
  rintro _ st2 (⟨S, R⟩ | ⟨S, ⟨G⟩⟩)
  · exact wpS_pure (.res S R)
  refine wpS_bind (wpS_rule ?_)
  refine wpS_bind (wpS_mono (wpS_forRange (I := fun _ => MG st (H6 a b (x + 2))) (Q := MQ st a b (H6 a b (x + 2))) ?_ ?_ (.go S (.mk G))) ?_)
  rotate_left
  · rintro _ _ ⟨S, G⟩
    exact .go S G
  · rintro _ st3 (⟨S, R⟩ | ⟨S, ⟨G⟩⟩)
    · exact wpS_pure (.res S R)
    · exact wpS_bind (wpS_setMG fun st4 S4 => wpS_pure (.go (S.trans S4) (.mk G)))
  clear G S
  rintro y _ st3 _ hy ⟨S, ⟨G⟩⟩
  rename_i na nb out mg ac bc
  refine wpS_post (fun P => (∀ r c st', Same st st' → MRes a b r → P (.done (some r, c)) st') ∧ ∀ c st', Same st st' → H6 a b (x + 2) c → P (.done (none, c)) st' ∧ P (.yield (none, c)) st')
    ⟨fun r c st' S R => .res S R, fun c st' S G => ⟨.go S G, .go S G⟩⟩ fun P hP => ?_
  have pr := hP.1
  have pg := hP.2
  clear hP
  have g1 := G.a0
  have g2 := G.ha
  have g3 := G.b0
  have g4 := G.hb
  have hn := G.hn
  have g5 := Nat.lt_of_succ_lt g3
  extract_lets -merge t1 nav t2 nbv t3 outv t4 mgv t5 acv bcv nb1 jp mg1
  have hjp : ∀ r mg, wpS (model prog w) A E s (jp r mg) P st3 := by
    intro r mg'
    refine wpS_bind (wpS_setMG fun st4 S4 => ?_)
    replace S := S.trans S4; clear S4
    refine wpS_bind (wpS_elemI ib0 (lt_back g5 g4) fun t1 q1 e1 => ?_)
    refine wpS_bind (wpS_gallop (S.kind.trans hk) ia0 (base := 0) (n := na) (by rw [Nat.zero_add]; exact g2) (lt_back g1 (Nat.le_refl _)) (fun i j hij hj => sa.at (Nat.add_le_add_left hij _) (by rw [Nat.zero_add]; exact Nat.lt_of_lt_of_le hj g2)) fun k k1 k2 k3 => ?_)
    replace k3 : ∀ i, k ≤ i → i < na → K b (nb - 1) ≤ K a i := fun i hi hj => by have := Int.le_of_lt (Bey.nle (k3 i hi hj)); rwa [Nat.zero_add] at this
    replace k2 : ∀ i, i < k → K a i ≤ K b (nb - 1) := fun i hi => by have := Bey.le (k2 i hi); rwa [Nat.zero_add] at this
    dsimp -zeta only
    extract_lets -merge kk ac2 jp2 out1 na1
    have L1 := G.ml.takeA (i := k) k1 g5 g4 fun j h1 h2 => k3 j h1 h2
    have hjp2 : ∀ r na' out, MR a b out na' nb → 0 < na' → na' ≤ na → K a (na' - 1) ≤ K b (nb - 1) → wpS (model prog w) A E s (jp2 r na' out) P st4 := by
      clear L1
      intro r na' out L l1 l2 hle
      have l2' := Nat.le_trans l2 g2
      refine wpS_bind (wpS_elem e1 ?_)
      have L2 := L.stepB g5 l1 l2' e1 hle
      refine wpS_ieq (fun c1 => wpS_pure (pr _ _ _ S (L2.first hb hba c1))) fun c1 => ?_
      refine wpS_bind (wpS_elemI ia0 (lt_back l1 l2') fun t2 q2 e2 => ?_)
      refine wpS_bind (wpS_gallop (S.kind.trans hk) ib0 (base := 0) (n := nb - 1) (by lia) (by lia) (fun i j hij hj => sb.at (Nat.add_le_add_left hij _) (by (exact nz12 (by assumption) (by assumption)))) fun m m1 m2 m3 => ?_)
      replace m3 : ∀ i, m ≤ i → i < nb - 1 → K a (na' - 1) ≤ K b i := fun i hi hj => by have := Bey.nlt (m3 i hi hj); rwa [Nat.zero_add] at this
      replace m2 : ∀ i, i < m → K b i ≤ K a (na' - 1) := fun i hi => by have := Int.le_of_lt (Bey.lt (m2 i hi)); rwa [Nat.zero_add] at this
      dsimp -zeta only
      extract_lets -merge kk2 bc2 na2 jp3 out2 nb2
      have L3 := L2.takeB (i := m) m1 l1 l2' fun j h1 h2 => m3 j h1 h2
      have hjp3 : ∀ r nb' out, MR a b out na' nb' → 1 < nb' → nb' ≤ nb - 1 → (K b (nb' - 1) ≤ K a (na' - 1)) → wpS (model prog w) A E s (jp3 r nb' out) P st4 := by
        clear L3 L2 L
        intro r nb' out L l3 l4 l5
        have l4' : nb' ≤ b.size := Nat.le_trans l4 (Nat.le_trans (Nat.sub_le _ _) g4)
        refine wpS_bind (wpS_elem e2 ?_)
        have L4 := L.stepA l1 (Nat.lt_of_succ_lt l3) l4' e2 l5
        refine wpS_ieq (fun c2 => wpS_pure (pr _ _ _ S (L4.done c2))) fun c2 => ?_
        have G' := pg _ st4 S (.mk (mg := mg') (ac := ac2) (bc := bc2) ⟨L4, Nat.pos_of_ne_zero c2, Nat.le_trans (Nat.sub_le _ _) l2', l3, l4', by lia⟩)
        exact wpS_ite (fun _ => wpS_pure G'.1) fun _ => wpS_pure G'.2
      clear_value jp3
      refine wpS_ite (fun c3 => ?_) fun c3 => hjp3 _ (nb - 1) _ L2 (by lia) (Nat.le_refl _) (m2 (nb - 1 - 1) (by lia))
      refine wpS_ieq (fun c4 => wpS_pure (pr _ _ _ S (L3.first hb hba c4))) fun c4 => ?_
      exact wpS_ieq (fun c5 => wpS_pure (pr _ _ _ S (L3.done' c5))) fun c5 => hjp3 _ m _ L3 (by lia) m1 (m2 (m - 1) (lt_back (Nat.pos_of_ne_zero c5) (Nat.le_refl _)))
    clear_value jp2
    refine wpS_ite (fun c3 => ?_) fun c3 => hjp2 _ na _ G.ml g1 (Nat.le_refl _) (k2 (na - 1) (by lia))
    exact wpS_ieq (fun c4 => wpS_pure (pr _ _ _ S (L1.done c4))) fun c4 => hjp2 _ k _ L1 (Nat.pos_of_ne_zero c4) k1 (k2 (k - 1) (lt_back (Nat.pos_of_ne_zero c4) (Nat.le_refl _)))
  clear_value jp
  exact wpS_ite (fun _ => hjp _ _) fun _ => hjp _ _
end
end Fl

namespace Fl
open PySem PyProof.Rows
/-- ordered between two places -/
def Seg (xs : Array Keyed) (lo hi : Nat) : Prop := ∀ i j, lo ≤ i → i ≤ j → j < hi → K xs i ≤ K xs j
def putAt (xs : Array Keyed) (i : Nat) (l : List Keyed) : Array Keyed := l.zipIdx.foldl (fun a x => match x with | (p, j) => a.setIfInBounds (i + j) p) xs
theorem put_aux (i : Nat) : ∀ (l : List Keyed) (n : Nat) (xs : Array Keyed) (k : Nat), i + n + l.length ≤ xs.size →
    ((l.zipIdx n).foldl (fun a x => match x with | (p, j) => a.setIfInBounds (i + j) p) xs)[k]? = if i + n ≤ k ∧ k < i + n + l.length then l[k - (i + n)]? else xs[k]?
  | [], n, xs, k, _ => by rw [if_neg (by simp only [List.length_nil]; lia)]; rfl
  | p :: l, n, xs, k, h => by
    rw [List.zipIdx_cons, List.foldl_cons]
    have := put_aux i l (n + 1) (xs.setIfInBounds (i + n) p) k (by simp only [List.length_cons] at h; rw [Array.size_setIfInBounds]; lia)
    refine this.trans ?_
    simp only [List.length_cons] at h ⊢
    by_cases c : i + n = k
    · subst c
      rw [if_neg (by lia), if_pos (by lia), Array.getElem?_setIfInBounds_self_of_lt (by lia), Nat.sub_self]; rfl
    · rw [Array.getElem?_setIfInBounds_ne c]
      by_cases c2 : i + (n + 1) ≤ k ∧ k < i + (n + 1) + l.length
      · rw [if_pos c2, if_pos (by lia), show k - (i + n) = (k - (i + (n + 1))) + 1 by lia]; rfl
      · rw [if_neg c2, if_neg (by lia)]
theorem put_get {xs : Array Keyed} {i : Nat} {l : List Keyed} (h : i + l.length ≤ xs.size) (k : Nat) : (putAt xs i l)[k]? = if i ≤ k ∧ k < i + l.length then l[k - i]? else xs[k]? := put_aux i l 0 xs k h
theorem put_toList {xs : Array Keyed} {i : Nat} {l : List Keyed} (h : i + l.length ≤ xs.size) : (putAt xs i l).toList = xs.toList.take i ++ l ++ xs.toList.drop (i + l.length) := by
  apply List.ext_getElem?
  intro k
  rw [Array.getElem?_toList, put_get h, List.append_assoc, List.getElem?_append, List.getElem?_append]
  simp only [List.length_take, Array.length_toList]
  by_cases c : i ≤ k ∧ k < i + l.length
  · rw [if_pos c, if_neg (by lia), if_pos (by lia), Nat.min_eq_left (by lia)]
  · rw [if_neg c]
    by_cases c2 : k < i
    · rw [if_pos (by lia), List.getElem?_take_of_lt c2, Array.getElem?_toList]
    · rw [if_neg (by lia), if_neg (by lia), List.getElem?_drop, Nat.min_eq_left (by lia), show i + l.length + (k - i - l.length) = k by lia, Array.getElem?_toList]
theorem put_perm {xs : Array Keyed} {i : Nat} {l : List Keyed} (h : i + l.length ≤ xs.size) (p : l.Perm (xs.extract i (i + l.length)).toList) : (putAt xs i l).Perm xs := by
  apply Array.perm_iff_toList_perm.mpr
  rw [put_toList h]
  have e : xs.toList = xs.toList.take i ++ (xs.extract i (i + l.length)).toList ++ xs.toList.drop (i + l.length) := by
    rw [ext_seg, List.append_assoc, Nat.add_sub_cancel_left, ← List.drop_drop, List.take_append_drop, List.take_append_drop]
  conv => rhs; rw [e]
  exact List.Perm.append_right _ (List.Perm.append_left _ p)
theorem K_ext {xs : Array Keyed} {i j k : Nat} (h : i + k < j) : K (xs.extract i j) k = K xs (i + k) := by
  apply K_congr
  rw [Array.getElem?_extract]
  split
  · rfl
  · rename_i c
    rw [eq_comm, Array.getElem?_eq_none_iff]; lia
theorem intExt {xs : Array Keyed} (h : IntKeys xs) (i j : Nat) : IntKeys (xs.extract i j) := fun p hp => h p (by
  rw [ext_seg] at hp; exact List.mem_of_mem_drop (List.mem_of_mem_take hp))
theorem Seg.srt {xs : Array Keyed} {i j : Nat} (h : Seg xs i j) : Srt keyI (xs.extract i j).toList := by
  unfold Srt
  rw [List.pairwise_iff_getElem]
  intro p q hp hq hpq
  have hq' : q < (xs.extract i j).size := by simpa [Nat.sub_min_sub_right] using hq
  have hp' : p < (xs.extract i j).size := by lia
  have a1 := K_get hp'
  have a2 := K_get hq'
  have hs : (xs.extract i j).size = min j xs.size - i := Array.size_extract
  rw [K_ext (by lia)] at a1 a2
  have := h (i + p) (i + q) (by lia) (by lia) (by lia)
  rw [a1, a2] at this
  simpa using this
/-- a part of an array is laid anew -/
structure Anew (lo hi : Nat) (xs ys : Array Keyed) : Prop where
  perm : ys.Perm xs
  out : ∀ k, k < lo ∨ hi ≤ k → ys[k]? = xs[k]?
theorem Anew.refl (lo hi : Nat) (xs : Array Keyed) : Anew lo hi xs xs := ⟨Array.Perm.refl _, fun _ _ => rfl⟩
theorem Seg.join {xs : Array Keyed} {lo mi hi : Nat} (a : Seg xs lo mi) (b : Seg xs mi hi) (c : ∀ i j, lo ≤ i → i < mi → mi ≤ j → j < hi → K xs i ≤ K xs j) : Seg xs lo hi := by
  intro i j h1 h2 h3
  by_cases c1 : j < mi
  · exact a i j h1 h2 c1
  · by_cases c2 : mi ≤ i
    · exact b i j c2 h2 h3
    · exact c i j h1 (by lia) (by lia) h3
theorem merged_ok {xs r : Array Keyed} {lo l1 mi h1 hi : Nat} (e1 : lo ≤ l1) (e2 : l1 ≤ mi) (e3 : mi ≤ h1) (e4 : h1 ≤ hi) (e5 : hi ≤ xs.size) (sa : Seg xs lo mi) (sb : Seg xs mi hi)
    (cl : ∀ i, lo ≤ i → i < l1 → K xs i ≤ K xs mi) (cr : ∀ j, h1 ≤ j → j < hi → K xs (mi - 1) ≤ K xs j) (hm : mi < h1) (hl : l1 < mi) (R : MRes (xs.extract l1 mi) (xs.extract mi h1) r) :
    Anew lo hi xs (putAt xs l1 r.toList) ∧ Seg (putAt xs l1 r.toList) lo hi := by
  have hx : (xs.extract l1 mi).toList ++ (xs.extract mi h1).toList = (xs.extract l1 h1).toList := by
    have q := @MR.seg xs l1 mi e2
    have q2 := @MR.seg xs mi h1 e3
    have q3 := @MR.seg xs l1 h1 (by lia)
    rw [q2, q, List.append_assoc] at q3
    exact List.append_cancel_left q3
  have P : r.toList.Perm (xs.extract l1 h1).toList := by rw [← hx]; exact R.1
  have hlen : r.toList.length = h1 - l1 := by rw [P.length_eq]; simp; lia
  have hb : l1 + r.toList.length ≤ xs.size := by lia
  have mid : ∀ i, l1 ≤ i → i < h1 → ∃ j, l1 ≤ j ∧ j < h1 ∧ K (putAt xs l1 r.toList) i = K xs j := by
    intro i i1 i2
    have hr : i - l1 < r.toList.length := by lia
    obtain ⟨j, j1, j2, e⟩ := MR.mem (P.mem_iff.mp (List.getElem_mem hr))
    refine ⟨j, j1, j2, ?_⟩
    rw [← e]
    unfold K
    rw [put_get hb, if_pos (by lia), List.getElem?_eq_getElem hr]
  have off : ∀ i, i < l1 ∨ h1 ≤ i → K (putAt xs l1 r.toList) i = K xs i := fun i hi => K_congr (by rw [put_get hb, if_neg (by lia)])
  refine ⟨⟨put_perm hb (by rw [show l1 + r.toList.length = h1 by lia]; exact P), fun k hk => by rw [put_get hb, if_neg (by lia)]⟩, ?_⟩
  have below : ∀ i j, lo ≤ i → i < l1 → l1 ≤ j → j < hi → K xs i ≤ K xs j := by
    intro i j i1 i2 j1 j2
    by_cases c : j < mi
    · exact sa i j i1 (by lia) c
    · exact Int.le_trans (cl i i1 i2) (sb mi j (Nat.le_refl _) (by lia) j2)
  have above : ∀ i j, lo ≤ i → i < h1 → h1 ≤ j → j < hi → K xs i ≤ K xs j := by
    intro i j i1 i2 j1 j2
    by_cases c : i < mi
    · exact Int.le_trans (sa i (mi - 1) i1 (by (exact nz14 (by assumption))) (by lia)) (cr j j1 j2)
    · exact sb i j (by lia) (by lia) j2
  refine Seg.join (mi := l1) (fun i j i1 i2 i3 => by rw [off i (by lia), off j (by lia)]; exact sa i j i1 i2 (by lia)) (Seg.join (mi := h1) ?_ (fun i j i1 i2 i3 => by rw [off i (by lia), off j (by lia)]; exact sb i j (by lia) i2 i3) ?_) ?_
  · intro i j i1 i2 i3
    rcases Nat.lt_or_eq_of_le i2 with lt | rfl
    · have hj : j - l1 < r.toList.length := by lia
      have := List.pairwise_iff_getElem.mp R.2 (i - l1) (j - l1) (by (exact nz5 (by assumption) (by assumption))) hj (by lia)
      unfold K
      rw [put_get hb, put_get hb, if_pos (by lia), if_pos (by lia), List.getElem?_eq_getElem hj, List.getElem?_eq_getElem (by (exact nz5 (by assumption) (by assumption)))]
      exact this
    · exact Int.le_refl _
  · intro i j i1 i2 j1 j2
    obtain ⟨i', a1, a2, e⟩ := mid i i1 i2
    rw [e, off j (by lia)]; exact above i' j (by lia) a2 j1 j2
  · intro i j i1 i2 j1 j2
    rw [off i (by lia)]
    by_cases c : j < h1
    · obtain ⟨j', a1, a2, e⟩ := mid j j1 c
      rw [e]; exact below i j' i1 i2 a1 (by lia)
    · rw [off j (by lia)]; exact below i j i1 i2 j1 j2

section
variable {prog : Program} {w : World} {A : Around} {E : Value → Shared → Prop} {s : Shared} {st : SortSt} {a₀ : Array Keyed}
theorem wpS_set {x : SortSt} {Q : PUnit → SortSt → Prop} (h : Q ⟨⟩ x) : wpS (model prog w) A E s (set x : StateT SortSt Sem PUnit) Q st := by
  unfold wpS; rw [StateT.run_set]; exact wpAny_pure ⟨rfl, h⟩
theorem wpS_mergeAt {i sa na p nb p' : Nat} {Q : Bool → SortSt → Prop} (hk : kindOf st = oneType') (hf : failedOf st = none) (h0 : IntKeys (arrOf st)) (e1 : (pendingOf st)[i]? = some (sa, na, p)) (e2 : (pendingOf st)[i + 1]? = some (sa + na, nb, p'))
    (a0 : 0 < na) (b0 : 0 < nb) (hs : sa + na + nb ≤ (arrOf st).size) (ga : Seg (arrOf st) sa (sa + na)) (gb : Seg (arrOf st) (sa + na) (sa + na + nb))
    (h : ∀ st', kindOf st' = oneType' → failedOf st' = none → pendingOf st' = ((pendingOf st).setIfInBounds i (sa, na + nb, p)).eraseIdxIfInBounds (i + 1) → Anew sa (sa + na + nb) (arrOf st) (arrOf st') → Seg (arrOf st') sa (sa + na + nb) → Q true st') : wpS (model prog w) A E s (mergeAt' i) Q st := by
  refine wpS_from ?_
  wp_delta
  wp_delta
  refine wpS_to ?_
  refine wpS_bind (wpS_get ?_)
  rw [e1, e2]
  dsimp -zeta only
  refine wpS_bind (wpS_set ?_)
  obtain ⟨t1, q1, f1⟩ := intAt h0 (show sa + na < (arrOf st).size by lia)
  refine wpS_bind (wpS_elem f1 ?_)
  refine wpS_bind (wpS_gallop (by exact hk) h0 (show sa + na ≤ (arrOf st).size by lia) a0 (fun x y hxy hy => ga _ _ (by lia) (by lia) (by lia)) fun k k1 k2 k3 => ?_)
  dsimp -zeta only
  replace k2 : ∀ j, sa ≤ j → j < sa + k → K (arrOf st) j ≤ K (arrOf st) (sa + na) := fun j j1 j2 => by
    have := Bey.le (k2 (j - sa) (by lia)); rwa [show sa + (j - sa) = j by lia] at this
  by_cases c1 : na - k = 0
  · rw [if_pos (by simpa using c1)]
    refine wpS_pure (h _ hk hf rfl (.refl _ _ _) (ga.join gb fun x y x1 x2 y1 y2 => ?_))
    exact Int.le_trans (k2 x x1 (by lia)) (gb _ _ (Nat.le_refl _) y1 y2)
  rw [if_neg (by simpa using c1)]
  have k4 : K (arrOf st) (sa + na) ≤ K (arrOf st) (sa + k) := Int.le_of_lt (Bey.nle (k3 k (Nat.le_refl _) (by lia)))
  clear k3
  have e3 : sa + k + (na - k) - 1 = sa + na - 1 := by lia
  obtain ⟨t2, q2, f2⟩ := intAt h0 (show sa + na - 1 < (arrOf st).size by lia)
  rw [e3]
  refine wpS_bind (wpS_elem f2 ?_)
  refine wpS_bind (wpS_gallop (by exact hk) h0 hs (show nb - 1 < nb by lia) (fun x y hxy hy => gb _ _ (by lia) (by lia) (by lia)) fun m m1 m2 m3 => ?_)
  replace m2 : ∀ j, sa + na ≤ j → j < sa + na + m → K (arrOf st) j ≤ K (arrOf st) (sa + na - 1) := fun j j1 j2 => by
    have := Int.le_of_lt (Bey.lt (m2 (j - (sa + na)) (by lia))); rwa [show sa + na + (j - (sa + na)) = j by lia] at this
  replace m3 : ∀ j, sa + na + m ≤ j → j < sa + na + nb → K (arrOf st) (sa + na - 1) ≤ K (arrOf st) j := fun j j1 j2 => by
    have := Bey.nlt (m3 (j - (sa + na)) (by lia) (by lia)); rwa [show sa + na + (j - (sa + na)) = j by lia] at this
  dsimp -zeta only
  by_cases c2 : m = 0
  · rw [if_pos (by simpa using c2)]
    refine wpS_pure (h _ hk hf rfl (.refl _ _ _) (ga.join gb fun x y x1 x2 y1 y2 => ?_))
    exact Int.le_trans (ga _ _ x1 (by (exact nz14 (by assumption))) (by (exact nz2 (by assumption)))) (m3 y (by lia) y2)
  rw [if_neg (by simpa using c2)]
  extract_lets -merge x y jp
  have hjp : ∀ r st', Same st st' ∨ pendingOf st' = ((pendingOf st).setIfInBounds i (sa, na + nb, p)).eraseIdxIfInBounds (i + 1) → kindOf st' = oneType' → failedOf st' = none → arrOf st' = arrOf st → pendingOf st' = ((pendingOf st).setIfInBounds i (sa, na + nb, p)).eraseIdxIfInBounds (i + 1) → MRes x y r → wpS (model prog w) A E s (jp r) Q st' := by
    intro r st' _ g1 g2 g3 g4 R
    refine wpS_bind (wpS_modify ?_)
    refine wpS_bind (wpS_get (wpS_pure ?_))
    have M := merged_ok (lo := sa) (l1 := sa + k) (mi := sa + na) (h1 := sa + na + m) (hi := sa + na + nb) (by lia) (by lia) (by lia) (by lia) hs ga gb k2 m3 (by lia) (by lia) R
    have e : (failedOf st').isNone = true := by rw [g2]; rfl
    refine Eq.mp (congrArg (fun b => Q b _) e.symm) (h _ g1 g2 g4 ?_ ?_)
    · show Anew _ _ _ (putAt (arrOf st') (sa + k) r.toList)
      rw [g3]; exact M.1
    · show Seg (putAt (arrOf st') (sa + k) r.toList) _ _
      rw [g3]; exact M.2
  clear_value jp
  have hxs : x.size = na - k := by show ((arrOf st).extract _ _).size = _; rw [Array.size_extract]; lia
  have hys : y.size = m := by show ((arrOf st).extract _ _).size = _; rw [Array.size_extract]; lia
  have kx : ∀ j, j < na - k → K x j = K (arrOf st) (sa + k + j) := fun j hj => K_ext (by (exact nz4 (by assumption)))
  have ky : ∀ j, j < m → K y j = K (arrOf st) (sa + na + j) := fun j hj => K_ext (by lia)
  have sx : Srt keyI x.toList := Seg.srt fun i j i1 i2 i3 => ga i j (by lia) i2 i3
  have sy : Srt keyI y.toList := Seg.srt fun i j i1 i2 i3 => gb i j i1 i2 (by lia)
  have hyx : ∀ q ∈ y.toList, keyI q ≤ K x (x.size - 1) := fun q hq => by
    obtain ⟨j, j1, j2, e⟩ := MR.mem hq
    rw [e, hxs, kx _ (by (exact nz1 (by assumption))), show sa + k + (na - k - 1) = sa + na - 1 by (exact nz3 (by assumption))]; exact m2 j j1 j2
  have hxy : ∀ q ∈ x.toList, K y 0 ≤ keyI q := fun q hq => by
    obtain ⟨j, j1, j2, e⟩ := MR.mem hq
    rw [e, ky 0 (by lia)]; exact Int.le_trans k4 (ga _ _ (by lia) j1 (by lia))
  by_cases c3 : na - k ≤ m
  · rw [if_pos c3]
    refine wpS_bind (wpS_mergeLo hk (intExt h0 _ _) (intExt h0 _ _) sx sy (by lia) (by lia) (by rw [kx 0 (by lia), ky 0 (by lia)]; exact k4) hyx fun r st' S R => ?_)
    exact hjp r st' (.inr S.pend) (S.kind.trans hk) (S.failed.trans hf) S.arr S.pend R
  · rw [if_neg c3]
    refine wpS_bind (wpS_mergeHi hk (intExt h0 _ _) (intExt h0 _ _) sx sy (by lia) (by lia) (by rw [hys, ky _ (by (exact nz1 (by assumption))), hxs, kx _ (by (exact nz1 (by assumption))), show sa + k + (na - k - 1) = sa + na - 1 by (exact nz3 (by assumption))]; exact m2 _ (by lia) (by lia)) hxy fun r st' S R => ?_)
    exact hjp r st' (.inr S.pend) (S.kind.trans hk) (S.failed.trans hf) S.arr S.pend R
end
end Fl

namespace Fl
open PySem PyProof.Rows
theorem Anew.trans {lo hi : Nat} {xs ys zs : Array Keyed} (a : Anew lo hi xs ys) (b : Anew lo hi ys zs) : Anew lo hi xs zs := ⟨b.perm.trans a.perm, fun k hk => (b.out k hk).trans (a.out k hk)⟩
/-- a state of the sort, seen from an elder one: the same but for a part of the array -/
structure SB (lo hi : Nat) (st₀ st : SortSt) : Prop where
  kind : kindOf st = oneType'
  failed : failedOf st = none
  pend : pendingOf st = pendingOf st₀
  anew : Anew lo hi (arrOf st₀) (arrOf st)
theorem intPerm {xs ys : Array Keyed} (h : IntKeys xs) (p : ys.Perm xs) : IntKeys ys := fun q hq => h q ((Array.perm_iff_toList_perm.mp p).mem_iff.mp hq)
theorem SB.size {lo hi : Nat} {st₀ st : SortSt} (B : SB lo hi st₀ st) : (arrOf st).size = (arrOf st₀).size := B.anew.perm.size_eq
/-- falling from a place on -/
def Fall (xs : Array Keyed) (lo n : Nat) : Prop := ∀ i j, i ≤ j → j < n → K xs (lo + j) ≤ K xs (lo + i)
def Rise (xs : Array Keyed) (lo n : Nat) : Prop := ∀ i j, i ≤ j → j < n → K xs (lo + i) ≤ K xs (lo + j)
theorem Rise.more {xs : Array Keyed} {lo n : Nat} (h : Rise xs lo n) (h1 : 1 ≤ n) (c : K xs (lo + n - 1) ≤ K xs (lo + n)) : Rise xs lo (n + 1) := by
  intro i j hij hj
  by_cases hn : j < n
  · exact h i j hij hn
  · obtain rfl : j = n := by lia
    by_cases hi : i = j
    · subst hi; exact Int.le_refl _
    · have := h i (j - 1) (by lia) (by lia)
      rw [show lo + (j - 1) = lo + j - 1 by lia] at this
      exact Int.le_trans this c
theorem Fall.more {xs : Array Keyed} {lo n : Nat} (h : Fall xs lo n) (h1 : 1 ≤ n) (c : K xs (lo + n) ≤ K xs (lo + n - 1)) : Fall xs lo (n + 1) := by
  intro i j hij hj
  by_cases hn : j < n
  · exact h i j hij hn
  · obtain rfl : j = n := by lia
    by_cases hi : i = j
    · subst hi; exact Int.le_refl _
    · have := h i (j - 1) (by lia) (by lia)
      rw [show lo + (j - 1) = lo + j - 1 by lia] at this
      exact Int.le_trans c this
theorem SB.mirror {lo hi i j : Nat} {st₀ st : SortSt} (B : SB lo hi st₀ st) (h1 : lo ≤ i) (h2 : j ≤ hi) (hj : j ≤ (arrOf st).size) : SB lo hi st₀ (setArr st (mirror (arrOf st) i j ((j - i) / 2))) :=
  ⟨B.kind, B.failed, B.pend, B.anew.trans ⟨mirror_perm _ _ _ _, fun k hk => by
    show (PyProof.Rows.mirror (arrOf st) i j ((j - i) / 2))[k]? = _
    rw [getElem?_mirror_all hj, if_neg (by lia)]⟩⟩
section
variable {prog : Program} {w : World} {A : Around} {E : Value → Shared → Prop} {s : Shared} {st st₀ : SortSt} {lo hi : Nat}
theorem wpS_ltS {i j : Nat} {Q : Option Bool → SortSt → Prop} (B : SB lo hi st₀ st) (h0 : IntKeys (arrOf st₀)) (hi : i < (arrOf st₀).size) (hj : j < (arrOf st₀).size)
    (h : Q (some (decide (K (arrOf st) i < K (arrOf st) j))) st) : wpS (model prog w) A E s (ltAt' i j) Q st := by
  obtain ⟨t, p, e1⟩ := intAt (intPerm h0 B.anew.perm) (show i < (arrOf st).size by rw [B.size]; exact hi)
  obtain ⟨u, q, e2⟩ := intAt (intPerm h0 B.anew.perm) (show j < (arrOf st).size by rw [B.size]; exact hj)
  exact wpS_ltAt B.kind e1 e2 h
theorem wpS_ascAt {a nrem : Nat} {Q : Option (Option Nat) × Nat → SortSt → Prop} (B : SB lo hi st₀ st) (h0 : IntKeys (arrOf st₀)) (hn : lo + nrem ≤ (arrOf st₀).size) (ha : 1 ≤ a) (han : a ≤ nrem) (hs : Rise (arrOf st) lo a)
    (h : ∀ n, a ≤ n → n ≤ nrem → Rise (arrOf st) lo n → (n = nrem ∨ K (arrOf st) (lo + n) < K (arrOf st) (lo + n - 1)) → Q (none, n) st) :
    wpS (model prog w) A E s (forIn [a:nrem] ((none, a) : Option (Option Nat) × Nat) fun _ c => do
      let x ← ltAt' (lo + c.2) (lo + c.2 - 1)
      match x with
      | some smaller => if smaller = true then pure (ForInStep.done (none, c.2)) else pure (ForInStep.yield (none, c.2 + 1))
      | _ => pure (ForInStep.done (some none, c.2))) Q st := by
  refine wpS_forRange (I := fun x c st' => st' = st ∧ c = (none, x) ∧ Rise (arrOf st) lo x) ?_ ?_ ⟨rfl, rfl, hs⟩
  · rintro x c st' hax hxn ⟨rfl, rfl, hs'⟩
    dsimp only
    refine wpS_bind (wpS_ltS B h0 (by lia) (by lia) ?_)
    by_cases c : K (arrOf st') (lo + x) < K (arrOf st') (lo + x - 1)
    · simp only [c, decide_true, if_true]
      exact wpS_pure (h x hax (by lia) hs' (.inr c))
    · simp only [c, decide_false, Bool.false_eq_true, if_false]
      exact wpS_pure ⟨rfl, rfl, hs'.more (by lia) (Int.not_lt.mp c)⟩
  · rintro c st' ⟨rfl, rfl, hs'⟩
    rw [show max a nrem = nrem by lia] at hs' ⊢
    exact h nrem han (Nat.le_refl _) hs' (.inl rfl)
theorem wpS_countAt {nrem : Nat} {Q : Option Nat → SortSt → Prop} (B : SB lo (lo + nrem) st₀ st) (h0 : IntKeys (arrOf st₀)) (hn : lo + nrem ≤ (arrOf st₀).size) (h1 : 1 ≤ nrem)
    (h : ∀ m st', SB lo (lo + nrem) st₀ st' → 1 ≤ m → m ≤ nrem → Rise (arrOf st') lo m → Q (some m) st') : wpS (model prog w) A E s (countRun' lo nrem) Q st := by
  rw [countRun'_eq]
  have r1 : Rise (arrOf st) lo 1 := by
    intro i j _ _
    obtain rfl : i = j := by lia
    exact Int.le_refl _
  refine wpS_bind (wpS_ascAt B h0 hn (Nat.le_refl _) h1 r1 fun n hn1 hn2 hsn hor => ?_)
  refine wpS_from ?_; wp_delta; refine wpS_to ?_
  by_cases hnn : n = nrem
  · rw [if_pos (by simpa using hnn)]
    exact wpS_pure (h n st B hn1 hn2 hsn)
  rw [if_neg (by simpa using hnn)]
  have hlt : K (arrOf st) (lo + n) < K (arrOf st) (lo + n - 1) := hor.resolve_left hnn
  extract_lets -merge n1 neq1 neq2 jp
  have hjp : ∀ r st, SB lo (lo + nrem) st₀ st → Fall (arrOf st) lo (n + 1) → wpS (model prog w) A E s (jp r) Q st := by
    clear B hsn hlt hor
    intro r st B F
    refine wpS_bind (wpS_rule ?_)
    refine wpS_bind (wpS_mono (wpS_forRange
      (I := fun x c st' => ∃ neq, c = (none, x, neq) ∧ SB lo (lo + nrem) st₀ st' ∧ Fall (arrOf st') lo x ∧ neq + 1 ≤ x ∧ (∀ i, lo + x - (neq + 1) ≤ i → i < lo + x → K (arrOf st') i = K (arrOf st') (lo + x - 1)))
      (Q := fun c st' => ∃ m neq, c = (none, m, neq) ∧ n + 1 ≤ m ∧ m ≤ nrem ∧ SB lo (lo + nrem) st₀ st' ∧ Fall (arrOf st') lo m ∧ neq + 1 ≤ m ∧ (∀ i, lo + m - (neq + 1) ≤ i → i < lo + m → K (arrOf st') i = K (arrOf st') (lo + m - 1))) ?_ ?_
      ⟨0, rfl, B, F, Nat.succ_le_succ (Nat.zero_le _), fun i h1 h2 => by congr 1; change lo + (n + 1) - (0 + 1) ≤ i at h1; change i < lo + (n + 1) at h2; show i = lo + (n + 1) - 1; lia⟩) ?_)
    · clear B F
      rintro x c st hax hxn ⟨neq, rfl, B, F, hq, he⟩
      replace hax : n + 1 ≤ x := hax
      refine wpS_bind (wpS_ltS B h0 (by show lo + x < _; lia) (by show lo + x - 1 < _; lia) ?_)
      have hsz : lo + x ≤ (arrOf st).size := by rw [B.size]; lia
      dsimp only
      by_cases c : K (arrOf st) (lo + x) < K (arrOf st) (lo + x - 1)
      · simp only [c, decide_true, if_true]
        split
        · refine wpS_bind (wpS_reverse (wpS_pure ⟨0, rfl, B.mirror (by lia) (by lia) hsz, ?_, by lia, fun i h1 h2 => by congr 1; lia⟩))
          intro i j hij hj
          show K (mirror (arrOf st) _ _ _) _ ≤ K (mirror (arrOf st) _ _ _) _
          rw [K_mirror_equal hsz he, K_mirror_equal hsz he]
          exact F.more (by (exact nz15 (by assumption))) (Int.le_of_lt c) i j hij hj
        · exact wpS_pure ⟨0, rfl, B, F.more (by (exact nz15 (by assumption))) (Int.le_of_lt c), by lia, fun i h1 h2 => by congr 1; lia⟩
      · simp only [c, decide_false, Bool.false_eq_true, if_false]
        refine wpS_bind (wpS_ltS B h0 (by lia) (by lia) ?_)
        by_cases c2 : K (arrOf st) (lo + x - 1) < K (arrOf st) (lo + x)
        · simp only [c2, decide_true, if_true]
          exact wpS_pure ⟨x, neq, rfl, hax, by lia, B, F, hq, he⟩
        · simp only [c2, decide_false, Bool.false_eq_true, if_false]
          have e : K (arrOf st) (lo + x) = K (arrOf st) (lo + x - 1) := by lia
          refine wpS_pure ⟨neq + 1, rfl, B, F.more (by (exact nz15 (by assumption))) (Int.le_of_eq e), by lia, fun i h1 h2 => ?_⟩
          rw [show lo + (x + 1) - 1 = lo + x by lia, e]
          by_cases hi : i = lo + x
          · rw [hi]; exact e
          · exact he i (by lia) (by lia)
    · rintro c st' ⟨neq, rfl, B, F, hq, he⟩
      have e : max n1 nrem = nrem := by show max (n + 1) nrem = nrem; lia
      rw [e] at F hq he ⊢
      exact ⟨nrem, neq, rfl, by lia, Nat.le_refl _, B, F, hq, he⟩
    · clear B F
      rintro c st ⟨m, neq, rfl, m1, m2, B, F, hq, he⟩
      extract_lets -merge r0 s0 m0 q0 jp2
      dsimp -zeta only [r0]
      have hsz : lo + m ≤ (arrOf st).size := by rw [B.size]; lia
      have hjp2 : ∀ r st, SB lo (lo + nrem) st₀ st → Fall (arrOf st) lo m → wpS (model prog w) A E s (jp2 r) Q st := by
        clear B F hsz he
        intro r st B F
        have hsz : lo + m ≤ (arrOf st).size := by rw [B.size]; lia
        refine wpS_bind (wpS_reverse ?_)
        have B' := B.mirror (i := lo) (j := lo + m) (Nat.le_refl _) (by lia) hsz
        refine wpS_bind (wpS_ascAt B' h0 hn (show 1 ≤ m by (exact nz15 (by assumption))) m2 ?_ fun n a1 a2 a3 _ => wpS_pure (h n _ B' (by have : m ≤ n := a1; lia) a2 a3))
        intro i j hij hj
        replace hj : j < m := hj
        show K (mirror (arrOf st) lo (lo + m) ((lo + m - lo) / 2)) _ ≤ K (mirror (arrOf st) lo (lo + m) ((lo + m - lo) / 2)) _
        rw [K_mirror hsz, K_mirror hsz, if_pos (by lia), if_pos (by lia)]
        have := F (m - 1 - j) (m - 1 - i) (by (exact Nat.sub_le_sub_left (by assumption) _)) (by (exact nz9 (by assumption) (by assumption)))
        rwa [show lo + (m - 1 - i) = lo + (lo + m) - 1 - (lo + i) by (exact nz8 (by assumption) (by assumption)), show lo + (m - 1 - j) = lo + (lo + m) - 1 - (lo + j) by lia] at this
      clear_value jp2
      by_cases c : neq > 0
      · rw [if_pos c]
        refine wpS_bind (wpS_reverse (hjp2 _ _ (B.mirror (i := lo + m - (neq + 1)) (j := lo + m) (by lia) (by lia) hsz) ?_))
        intro i j hij hj
        show K (mirror (arrOf st) (lo + m - (neq + 1)) (lo + m) _) _ ≤ K (mirror (arrOf st) (lo + m - (neq + 1)) (lo + m) _) _
        rw [K_mirror_equal hsz he, K_mirror_equal hsz he]
        exact F i j hij hj
      · rw [if_neg c]
        exact hjp2 _ _ B F
  clear_value jp
  dsimp only
  by_cases hgt : n > 1
  · rw [if_pos hgt]
    refine wpS_bind (wpS_ltS B h0 (by lia) (by lia) ?_)
    by_cases c : K (arrOf st) lo < K (arrOf st) (lo + n - 1)
    · simp only [c, decide_true, if_true]
      exact wpS_pure (h n st B hn1 hn2 hsn)
    · simp only [c, decide_false, Bool.false_eq_true, if_false]
      have hsz : lo + n ≤ (arrOf st).size := by rw [B.size]; lia
      have hall : ∀ k, lo ≤ k → k < lo + n → K (arrOf st) k = K (arrOf st) (lo + n - 1) := by
        intro k k1 k2
        have a1 := hsn 0 (k - lo) (by lia) (by lia)
        have a2 := hsn (k - lo) (n - 1) (by lia) (by lia)
        rw [show lo + (k - lo) = k by lia] at a1 a2
        rw [show lo + (n - 1) = lo + n - 1 by lia] at a2
        rw [Nat.add_zero] at a1
        lia
      refine wpS_bind (wpS_reverse (hjp _ _ (B.mirror (Nat.le_refl _) (by lia) hsz) ?_))
      have F : Fall (arrOf st) lo n := fun i j hij hj => by rw [hall (lo + i) (by lia) (by lia), hall (lo + j) (by lia) (by lia)]; exact Int.le_refl _
      intro i j hij hj
      show K (mirror (arrOf st) lo (lo + n) _) _ ≤ K (mirror (arrOf st) lo (lo + n) _) _
      rw [K_mirror_equal hsz hall, K_mirror_equal hsz hall]
      exact F.more (by (exact nz15 (by assumption))) (Int.le_of_lt hlt) i j hij hj
  · rw [if_neg hgt]
    obtain rfl : n = 1 := by lia
    refine hjp _ _ B (Fall.more (n := 1) (fun i j _ _ => ?_) (Nat.le_refl _) (Int.le_of_lt hlt))
    obtain rfl : i = j := by lia
    exact Int.le_refl _

theorem wpS_binAt {n ok : Nat} {Q : Bool → SortSt → Prop} (h0 : IntKeys (arrOf st₀)) (B : SB lo (lo + hi) st₀ st) (hn : lo + hi ≤ (arrOf st₀).size) (hnh : n ≤ hi) (hok : ok ≤ n) (hs : Rise (arrOf st) lo ok)
    (h : ∀ st', SB lo (lo + hi) st₀ st' → Rise (arrOf st') lo n → Q true st') : wpS (model prog w) A E s (binarySort' lo n ok) Q st := by
  rw [binarySort'_eq]
  refine wpS_bind (wpS_mono (wpS_forRange (I := fun k c st' => c = (none, ()) ∧ SB lo (lo + hi) st₀ st' ∧ Rise (arrOf st') lo (min k n))
    (Q := fun c st' => c = (none, ()) ∧ SB lo (lo + hi) st₀ st' ∧ Rise (arrOf st') lo n) ?_ ?_ ⟨rfl, B, fun i j hij hj => ?_⟩) ?_)
  · clear B hs
    rintro k c st hak hkn ⟨rfl, B, hs⟩
    rw [show min k n = k by lia] at hs
    refine wpS_bind (wpS_mono (wpS_forRange (I := fun x c st' => st' = st ∧ ∃ l r, c = (none, l, r) ∧ l ≤ r ∧ r ≤ k ∧ r - l ≤ k - x ∧
        (∀ i, i < l → K (arrOf st) (lo + i) ≤ K (arrOf st) (lo + k)) ∧ (∀ i, r ≤ i → i < k → K (arrOf st) (lo + k) < K (arrOf st) (lo + i)))
      (Q := fun c st' => st' = st ∧ ∃ l, c = (none, l, l) ∧ l ≤ k ∧
        (∀ i, i < l → K (arrOf st) (lo + i) ≤ K (arrOf st) (lo + k)) ∧ (∀ i, l ≤ i → i < k → K (arrOf st) (lo + k) < K (arrOf st) (lo + i))) ?_ ?_
        ⟨rfl, 0, k, rfl, Nat.zero_le _, Nat.le_refl _, Nat.le_refl _, fun i hi => absurd hi (Nat.not_lt_zero _), fun i h1 h2 => by lia⟩) ?_)
    · rintro x c st' _ hxk ⟨rfl, l, r, rfl, a1, a2, a3, a4, a5⟩
      dsimp only
      by_cases c1 : l ≥ r
      · rw [if_pos c1]
        obtain rfl : l = r := by lia
        exact wpS_pure ⟨rfl, l, rfl, a2, a4, a5⟩
      · rw [if_neg c1]
        refine wpS_bind (wpS_ltS B h0 (by lia) (by lia) ?_)
        by_cases c2 : K (arrOf st') (lo + k) < K (arrOf st') (lo + (l + r) / 2)
        · simp only [c2, decide_true, if_true]
          exact wpS_pure ⟨rfl, l, (l + r) / 2, rfl, by lia, by lia, by (exact nz7 (by assumption) (by assumption) (by assumption) (by assumption)), a4, fun i h1 h2 => Int.lt_of_lt_of_le c2 (hs _ _ h1 h2)⟩
        · simp only [c2, decide_false, Bool.false_eq_true, if_false]
          exact wpS_pure ⟨rfl, (l + r) / 2 + 1, r, rfl, by lia, a2, by (exact nz6 (by assumption) (by assumption) (by assumption) (by assumption)), fun i h1 => Int.le_trans (hs i ((l + r) / 2) (by lia) (by lia)) (Int.not_lt.mp c2), a5⟩
    · rintro c st' ⟨rfl, l, r, rfl, a1, a2, a3, a4, a5⟩
      obtain rfl : l = r := by lia
      exact ⟨rfl, l, rfl, a2, a4, a5⟩
    · rintro c st' ⟨rfl, l, rfl, a2, a4, a5⟩
      show wpS _ _ _ _ (do moveDown' (lo + k) (lo + l); pure (ForInStep.yield (none, ()))) _ _
      rw [moveDown'_eq, show lo + k - (lo + l) = k - l by lia]
      have hks : lo + k < (arrOf st').size := by rw [B.size]; lia
      refine wpS_bind (wpS_modify (wpS_pure ⟨rfl, ⟨B.kind, B.failed, B.pend, B.anew.trans ⟨bubble_perm _ _ _, fun j hj => ?_⟩⟩, ?_⟩))
      · show (bubble (arrOf st') (lo + k) (k - l))[j]? = _
        rw [getElem?_bubble hks _ (by lia), if_neg (by lia), if_neg (by lia)]
      · rw [show min (k + 1) n = k + 1 by lia]
        intro i j hij hj
        show K (bubble (arrOf st') (lo + k) (k - l)) _ ≤ K (bubble (arrOf st') (lo + k) (k - l)) _
        rw [K_bubble hks (by lia), K_bubble hks (by lia), show lo + k - (k - l) = lo + l by lia]
        have e : ∀ i, lo + l < lo + i → lo + i - 1 = lo + (i - 1) := fun i _ => by lia
        by_cases i1 : lo + i = lo + l
        · rw [if_pos i1]
          by_cases j1 : lo + j = lo + l
          · rw [if_pos j1]; exact Int.le_refl _
          · rw [if_neg j1, if_pos (by lia), e j (by lia)]; exact Int.le_of_lt (a5 _ (by lia) (by lia))
        · rw [if_neg i1]
          by_cases i2 : lo + l < lo + i ∧ lo + i ≤ lo + k
          · rw [if_pos i2, if_neg (by lia), if_pos (by lia), e i (by lia), e j (by lia)]; exact hs _ _ (by lia) (by lia)
          · rw [if_neg i2]
            by_cases j1 : lo + j = lo + l
            · rw [if_pos j1]; exact a4 _ (by lia)
            · rw [if_neg j1]
              by_cases j2 : lo + l < lo + j ∧ lo + j ≤ lo + k
              · rw [if_pos j2, e j (by lia)]; exact hs _ _ (by lia) (by lia)
              · rw [if_neg j2]; exact hs _ _ (by lia) (by lia)
  · rintro c st' ⟨rfl, B, hs⟩
    rw [show min (max (max ok 1) n) n = n by lia] at hs
    exact ⟨rfl, B, hs⟩
  · by_cases c : ok = 0
    · obtain rfl : i = j := by lia
      exact Int.le_refl _
    · exact hs i j hij (by lia)
  · rintro c st' ⟨rfl, B, hs⟩
    exact wpS_pure (h st' B hs)
end
end Fl

namespace Fl
open PySem PyProof.Rows
/-- runs one behind the other, each ordered -/
def Segs (xs : Array Keyed) : List (Nat × Nat × Nat) → Nat → Nat → Prop
  | [], a, b => a = b
  | p :: r, a, b => p.1 = a ∧ 0 < p.2.1 ∧ Seg xs a (a + p.2.1) ∧ Segs xs r (a + p.2.1) b
theorem Segs.app {xs : Array Keyed} {l r : List (Nat × Nat × Nat)} : ∀ {a b : Nat}, Segs xs (l ++ r) a b ↔ ∃ m, Segs xs l a m ∧ Segs xs r m b := by
  induction l with
  | nil => intro a b; exact ⟨fun h => ⟨a, rfl, h⟩, fun ⟨m, e, h⟩ => by cases e; exact h⟩
  | cons p l ih =>
    intro a b
    constructor
    · rintro ⟨h1, h2, h3, h4⟩
      obtain ⟨m, k1, k2⟩ := ih.mp h4
      exact ⟨m, ⟨h1, h2, h3, k1⟩, k2⟩
    · rintro ⟨m, ⟨h1, h2, h3, h4⟩, k⟩
      exact ⟨h1, h2, h3, ih.mpr ⟨m, h4, k⟩⟩
theorem Segs.le {xs : Array Keyed} {l : List (Nat × Nat × Nat)} : ∀ {a b : Nat}, Segs xs l a b → a + l.length ≤ b := by
  induction l with
  | nil => intro a b h; cases h; simp
  | cons p l ih => rintro a b ⟨_, h2, _, h4⟩; have := ih h4; simp; lia
theorem Segs.congr {xs ys : Array Keyed} {l : List (Nat × Nat × Nat)} : ∀ {a b : Nat}, Segs xs l a b → (∀ k, a ≤ k → k < b → K ys k = K xs k) → Segs ys l a b := by
  induction l with
  | nil => intro a b h _; exact h
  | cons p l ih =>
    rintro a b ⟨h1, h2, h3, h4⟩ h
    have hb := h4.le
    exact ⟨h1, h2, fun i j a1 a2 a3 => by rw [h i (by lia) (by lia), h j (by lia) (by lia)]; exact h3 i j a1 a2 a3, ih h4 fun k k1 k2 => h k (by lia) k2⟩
theorem Segs.modify {xs : Array Keyed} {f : Nat × Nat × Nat → Nat × Nat × Nat} (hf : ∀ p, (f p).1 = p.1 ∧ (f p).2.1 = p.2.1) {l : List (Nat × Nat × Nat)} : ∀ {i a b : Nat}, Segs xs l a b → Segs xs (l.modify i f) a b := by
  induction l with
  | nil => intro i a b h; rw [List.modify_nil]; exact h
  | cons p l ih =>
    rintro i a b ⟨h1, h2, h3, h4⟩
    cases i with
    | zero => rw [List.modify_zero_cons]; exact ⟨(hf p).1.trans h1, by rw [(hf p).2]; exact h2, by rw [(hf p).2]; exact h3, by rw [(hf p).2]; exact h4⟩
    | succ i => rw [List.modify_succ_cons]; exact ⟨h1, h2, h3, ih h4⟩
theorem split2 {p : Array (Nat × Nat × Nat)} {i : Nat} (h : i + 1 < p.size) : ∃ l x y r, p.toList = l ++ x :: y :: r ∧ l.length = i ∧ p[i]? = some x ∧ p[i + 1]? = some y ∧
    ∀ v, ((p.setIfInBounds i v).eraseIdxIfInBounds (i + 1)).toList = l ++ v :: r := by
  have hl : p.toList.length = p.size := Array.length_toList
  refine ⟨p.toList.take i, p[i], p[i + 1], p.toList.drop (i + 2), ?_, by rw [List.length_take]; lia, getElem?_pos p i (by lia), getElem?_pos p (i + 1) h, fun v => ?_⟩
  · have e := List.take_append_drop i p.toList
    rw [List.drop_eq_getElem_cons (by lia), List.drop_eq_getElem_cons (by lia)] at e
    simpa using e.symm
  · rw [Array.eraseIdxIfInBounds, dif_pos (by rw [Array.size_setIfInBounds]; exact h), Array.toList_eraseIdx, Array.toList_setIfInBounds]
    have e := List.take_append_drop i p.toList
    rw [List.drop_eq_getElem_cons (by lia), List.drop_eq_getElem_cons (by lia)] at e
    conv => lhs; rw [← e]
    rw [List.set_append_right _ _ (by rw [List.length_take]; lia), List.eraseIdx_append_of_length_le (by rw [List.length_take]; lia)]
    rw [List.length_take, show i - min i p.toList.length = 0 by lia, show i + 1 - min i p.toList.length = 1 by lia]
    rfl
/-- how the sort stands between two runs -/
structure RS (a₀ : Array Keyed) (lo : Nat) (st : SortSt) : Prop where
  kind : kindOf st = oneType'
  failed : failedOf st = none
  perm : (arrOf st).Perm a₀
  segs : Segs (arrOf st) (pendingOf st).toList 0 lo
section
variable {prog : Program} {w : World} {A : Around} {E : Value → Shared → Prop} {s : Shared} {st : SortSt} {a₀ : Array Keyed}
theorem wpS_mergeRS {lo i : Nat} {Q : Bool → SortSt → Prop} (h0 : IntKeys a₀) (R : RS a₀ lo st) (hlo : lo ≤ a₀.size) (hi : i + 1 < (pendingOf st).size)
    (h : ∀ st', RS a₀ lo st' → (pendingOf st').size + 1 = (pendingOf st).size → (∀ k, lo ≤ k → (arrOf st')[k]? = (arrOf st)[k]?) → Q true st') : wpS (model prog w) A E s (mergeAt' i) Q st := by
  obtain ⟨l, ⟨sa, na, p⟩, ⟨sb, nb, p'⟩, r, e, el, e1, e2, ev⟩ := split2 hi
  have S := R.segs
  rw [e] at S
  obtain ⟨m, S1, g1, g2, g3, g4, g5, g6, S2⟩ := Segs.app.mp S
  have hz : (arrOf st).size = a₀.size := R.perm.size_eq
  have hle := S2.le
  dsimp only at g1 g2 g3 g4 g5 g6 S2 hle
  subst g1
  subst g4
  refine wpS_mergeAt R.kind R.failed (intPerm h0 R.perm) e1 e2 g2 g5 (by lia) g3 g6 fun st' k1 k2 k3 k4 k5 => h st' ⟨k1, k2, k4.perm.trans R.perm, ?_⟩ ?_ fun k hk => k4.out k (by lia)
  · rw [k3, ev]
    have off : ∀ k, k < sa ∨ sa + na + nb ≤ k → K (arrOf st') k = K (arrOf st) k := fun k hk => K_congr (k4.out k hk)
    exact Segs.app.mpr ⟨sa, S1.congr fun k _ hk => off k (by lia), rfl, Nat.add_pos_left g2 _, by rw [← Nat.add_assoc]; exact k5, by rw [← Nat.add_assoc]; exact S2.congr fun k hk _ => off k (by lia)⟩
  · have q1 : (pendingOf st').toList.length = (l ++ (sa, na + nb, p) :: r).length := by rw [k3, ev]
    have q2 : (pendingOf st).toList.length = (l ++ (sa, na, p) :: (sa + na, nb, p') :: r).length := by rw [e]
    rw [Array.length_toList] at q1 q2
    rw [q1, q2]; simp; lia
theorem wpS_sortAll {Q : Unit → SortSt → Prop} (h0 : IntKeys a₀) (R : RS a₀ 0 st) (h2 : 2 ≤ a₀.size)
    (h : ∀ st', (arrOf st').Perm a₀ → failedOf st' = none → SortedTo (arrOf st') a₀.size → Q () st') : wpS (model prog w) A E s sortRuns' Q st := by
  rw [sortRuns'_eq]
  refine wpS_bind (wpS_get ?_)
  have hz : (arrOf st).size = a₀.size := R.perm.size_eq
  (first | with_reducible refine jBt hz ?_ | with_reducible refine jBf hz ?_ | with_reducible refine jBn hz ?_ | with_reducible refine jBm hz ?_ | rw [hz])
  extract_lets -merge size minrun lo0
  refine wpS_bind (wpS_mono (wpS_forRange
    (I := fun x c st' => ∃ lo, c = (none, lo) ∧ lo ≤ a₀.size ∧ (x ≤ lo ∨ lo = a₀.size) ∧ RS a₀ lo st')
    (Q := fun c st' => c = (none, a₀.size) ∧ RS a₀ a₀.size st') ?_ ?_ ⟨0, rfl, Nat.zero_le _, .inl (Nat.le_refl _), R⟩) ?_)
  · clear R hz
    rintro x c st _ hx ⟨lo, rfl, hlo, hxl, R⟩
    extract_lets -merge lov jp force nf
    by_cases c1 : lo ≥ a₀.size
    · rw [if_pos c1]
      obtain rfl : lo = a₀.size := by lia
      exact wpS_pure ⟨rfl, R⟩
    rw [if_neg c1]
    have hz : (arrOf st).size = a₀.size := R.perm.size_eq
    have iz : IntKeys (arrOf st) := intPerm h0 R.perm
    refine wpS_bind (wpS_countAt (st₀ := st) ⟨R.kind, R.failed, rfl, .refl _ _ _⟩ iz (show lo + (a₀.size - lo) ≤ _ by lia) (show 1 ≤ a₀.size - lo by lia) fun n st1 B n1 n2 r1 => ?_)
    replace n2 : n ≤ a₀.size - lo := n2
    replace r1 : Rise (arrOf st1) lo n := r1
    refine wpS_post (fun P => ∀ lo' st', lo' ≤ a₀.size → x + 1 ≤ lo' → RS a₀ lo' st' → P (.yield (none, lo')) st') (fun lo' st' q1 q2 q3 => ⟨lo', rfl, q1, .inl q2, q3⟩) fun P hP => ?_
    have hjp : ∀ n st2, SB lo (lo + (a₀.size - lo)) st st2 → 1 ≤ n → n ≤ a₀.size - lo → Rise (arrOf st2) lo n → wpS (model prog w) A E s (jp () n) P st2 := by
      clear B r1 n1 n2 n
      intro n st2 B n1 n2 r1
      refine wpS_bind (wpS_get ?_)
      extract_lets -merge lo1 jpi
      have R2 : RS a₀ lo st2 := ⟨B.kind, B.failed, B.anew.perm.trans R.perm, by rw [B.pend]; exact R.segs.congr fun k _ hk => K_congr (B.anew.out k (.inl hk))⟩
      have g2 : Seg (arrOf st2) lo (lo + n) := fun i j i1 i2 i3 => by
        have := r1 (i - lo) (j - lo) (by lia) (by lia)
        rwa [show lo + (i - lo) = i by lia, show lo + (j - lo) = j by lia] at this
      have hjpi : ∀ st3, RS a₀ lo st3 → Seg (arrOf st3) lo (lo + n) → wpS (model prog w) A E s (jpi ()) P st3 := by
        intro st3 R3 g3
        refine wpS_bind (wpS_modify (wpS_pure (hP (lo + n) _ (by lia) (by lia) ⟨R3.kind, R3.failed, R3.perm, ?_⟩)))
        show Segs (arrOf st3) ((pendingOf st3).push (lo, n, 0)).toList 0 (lo + n)
        rw [Array.toList_push]
        exact Segs.app.mpr ⟨lo, R3.segs, rfl, n1, g3, rfl⟩
      clear_value jpi
      cases hb : (pendingOf st2).back? with
      | none => exact hjpi st2 R2 g2
      | some q =>
        obtain ⟨s1, m1, p1⟩ := q
        dsimp -zeta only
        extract_lets -merge pw
        refine wpS_bind (wpS_mono (wpS_forRange (I := fun _ c st' => c = (none, ()) ∧ RS a₀ lo st' ∧ Seg (arrOf st') lo (lo + n)) (Q := fun c st' => c = (none, ()) ∧ RS a₀ lo st' ∧ Seg (arrOf st') lo (lo + n)) ?_ (fun _ _ h => h) ⟨rfl, R2, g2⟩) ?_)
        · clear R2 g2 hb r1 B
          rintro y c st3 _ _ ⟨rfl, R3, g3⟩
          refine wpS_bind (wpS_get ?_)
          extract_lets -merge p
          split
          · rename_i older hq
            split
            · exact wpS_pure ⟨rfl, R3, g3⟩
            · have hp : 1 < p.size := by
                by_cases hh : p.size > 1
                · exact hh
                · rw [if_neg hh] at hq; exact nomatch hq
              have hp' : 1 < (pendingOf st3).size := hp
              refine wpS_bind (wpS_mergeRS h0 R3 hlo (show (pendingOf st3).size - 2 + 1 < (pendingOf st3).size by lia) fun st4 R4 _ k4 => ?_)
              refine wpS_pure ⟨rfl, R4, fun i j i1 i2 i3 => ?_⟩
              rw [K_congr (k4 i i1), K_congr (k4 j (by lia))]; exact g3 i j i1 i2 i3
          · exact wpS_pure ⟨rfl, R3, g3⟩
        · clear R2 g2 hb r1 B
          rintro c st3 ⟨rfl, R3, g3⟩
          refine wpS_bind (wpS_modify (hjpi _ ⟨R3.kind, R3.failed, R3.perm, ?_⟩ g3))
          show Segs (arrOf st3) ((pendingOf st3).modify _ _).toList 0 lo
          rw [Array.toList_modify]
          exact Segs.modify (f := fun x => (x.1, x.2.1, pw)) (fun _ => ⟨rfl, rfl⟩) R3.segs
    clear_value jp
    dsimp -zeta only
    extract_lets -merge nv
    by_cases c2 : n < minrun
    · rw [if_pos c2]
      refine wpS_bind (wpS_rule ?_)
      refine wpS_bind (wpS_binAt (hi := a₀.size - lo) (n := min (a₀.size - lo) minrun) iz B (by lia) (Nat.min_le_left _ _) (by show n ≤ _; lia) r1 fun st2 B2 r2 => ?_)
      exact hjp _ _ B2 (by lia) (Nat.min_le_left _ _) r2
    · rw [if_neg c2]
      exact hjp _ _ B n1 n2 r1
  · rintro c st' ⟨lo, rfl, hlo, hxl, R⟩
    obtain rfl : lo = a₀.size := by
      have : max 0 size = a₀.size := Nat.max_eq_right (Nat.zero_le _)
      lia
    exact ⟨rfl, R⟩
  · clear R hz
    rintro c st ⟨rfl, R⟩
    dsimp only
    have hle := R.segs.le
    rw [Array.length_toList, Nat.zero_add] at hle
    refine wpS_bind (wpS_mono (wpS_forRange
      (I := fun x c st' => c = (none, ()) ∧ RS a₀ a₀.size st' ∧ x + (pendingOf st').size ≤ a₀.size + 1 ∨ c = (none, ()) ∧ RS a₀ a₀.size st' ∧ (pendingOf st').size ≤ 1)
      (Q := fun c st' => c = (none, ()) ∧ RS a₀ a₀.size st' ∧ (pendingOf st').size ≤ 1) ?_ ?_ (.inl ⟨rfl, R, by lia⟩)) ?_)
    · clear R hle
      intro x c st _ hx hI
      obtain ⟨rfl, R, hor⟩ : c = (none, ()) ∧ RS a₀ a₀.size st ∧ (x + (pendingOf st).size ≤ a₀.size + 1 ∨ (pendingOf st).size ≤ 1) := by
        rcases hI with ⟨a, b, c⟩ | ⟨a, b, c⟩
        · exact ⟨a, b, .inl c⟩
        · exact ⟨a, b, .inr c⟩
      refine wpS_bind (wpS_get ?_)
      by_cases c1 : (pendingOf st).size ≤ 1
      · rw [if_pos c1]
        exact wpS_pure ⟨rfl, R, c1⟩
      rw [if_neg c1]
      have hif : ∀ (c : Prop) [Decidable c], (if c then (pendingOf st).size - 2 - 1 else (pendingOf st).size - 2) + 1 < (pendingOf st).size := fun c _ => by split <;> lia
      refine wpS_bind (wpS_mergeRS h0 R (Nat.le_refl _) (hif _) fun st' R' e _ => wpS_pure (.inl ⟨rfl, R', by lia⟩))
    · rintro c st' (⟨rfl, R, e⟩ | ⟨rfl, R, e⟩)
      · refine ⟨rfl, R, ?_⟩
        have : max 0 size = a₀.size := Nat.max_eq_right (Nat.zero_le _)
        lia
      · exact ⟨rfl, R, e⟩
    · rintro c st' ⟨rfl, R, e⟩
      refine wpS_pure (h st' R.perm R.failed ?_)
      have S := R.segs
      have hl : (pendingOf st').toList.length ≤ 1 := by rw [Array.length_toList]; exact e
      cases hp : (pendingOf st').toList with
      | nil =>
        rw [hp] at S
        replace S : 0 = a₀.size := S
        lia
      | cons q r =>
        rw [hp] at S hl
        cases r with
        | cons _ _ => simp at hl
        | nil =>
          obtain ⟨_, _, g, e⟩ := S
          replace e : 0 + q.2.1 = a₀.size := e
          rw [e] at g
          exact fun i j hij hj => g i j (Nat.zero_le _) hij hj
end
end Fl

namespace Fl
open PySem PyProof.Rows
section
variable {prog : Program} {w : World} {A : Around} {E : Value → Shared → Prop} {s : Shared}
theorem sort_tree {a : Addr} {vs : List Value} {ns : List Int} {n : Nat} {P : Fin → Shared → Prop} (ho : s.heap.get? a = some (seqObj "list" vs.toArray n))
    (hI : IntsAre vs ns) (hlen : vs.length ≤ 16777216)
    (h : ∀ (out : Array Value) (ns' : List Int), IntsAre out.toList ns' → ns'.Perm ns → ns'.Pairwise (· ≤ ·) → P (.done (.ret .none)) { s with heap := sortedHeap s.heap a vs out }) :
    wpAny (model prog w) A (Builtin.«list.sort» ⟨[.ref a], []⟩) P E s := by
  by_cases h64 : vs.length < 64
  · exact list_sort_tree ho hI h64 h
  rw [list_sort_plain]
  have ha : a < s.heap.objs.size := Heap.lt_size ho
  refine wpAny_bind (listItems_at ho rfl ?_)
  have hszv : vs.toArray.size ≤ sizeLine := by rw [sizeLine_eq]; simpa using hlen
  refine wpAny_bind (listUpdate_at ho rfl ?_ (hsz := hszv))
  obtain ⟨e1, q1⟩ : ∃ e1, (s.heap.update a (Obj.mapSeq fun _ => #[])).get? a = some (seqObj "list" #[] e1) := ⟨_, get?_update_seq ho fun _ => #[]⟩
  refine wpAny_bind (seqEpoch_at q1 rfl ?_)
  refine wpAny_bind (wpAny_newTuple ?_)
  refine wpAny_bind (wpAny_newList ?_)
  refine wpAny_holding ?_
  have q2 : (((s.heap.update a (Obj.mapSeq fun _ => #[])).push (seqObj "tuple" vs.toArray 0)).push (seqObj "list" #[] 0)).get? a = some (seqObj "list" #[] e1) :=
    Heap.get?_push_of_some _ (Heap.get?_push_of_some _ q1)
  show wpAny (model prog w) A _ P E { s with heap := ((s.heap.update a (Obj.mapSeq fun _ => #[])).push (seqObj "tuple" vs.toArray 0)).push (seqObj "list" #[] 0) }
  dsimp only
  have c : ¬ vs.toArray.size < 2 := by rw [List.size_toArray]; lia
  rw [if_neg c, if_neg c]
  have K0 : keyKind' vs.toArray = pure oneType' := by
    match vs, h64 with
    | [], h64 => exact absurd (Nat.zero_lt_succ _) h64
    | [_], h64 => exact absurd (Nat.succ_lt_succ (Nat.zero_lt_succ _)) h64
    | v₁ :: v₂ :: rest, _ => exact keyKind_ints hI
  rw [K0]
  refine wpAny_bind (wpAny_pure ?_)
  refine wpAny_bind (wpAny_mono (wpS_sortAll (a₀ := pairsOf vs) (st := SortSt.mk' oneType' (vs.toArray.zip vs.toArray) #[] 7 none)
    (Q := fun _ st' => (arrOf st').Perm (pairsOf vs) ∧ failedOf st' = none ∧ SortedTo (arrOf st') (pairsOf vs).size)
    hI.intKeys ⟨rfl, rfl, Array.Perm.refl _, rfl⟩ (by rw [pairsOf_size]; lia) fun st' a1 a2 a3 => ⟨a1, a2, a3⟩) ?_ fun _ _ e => e)
  rintro ⟨⟨⟩, st'⟩ s' ⟨rfl, hp, hf, hs⟩
  dsimp only
  refine wpAny_bind (seqEpoch_at q2 rfl ?_)
  have z2 : ((arrOf st').map (·.2)).size ≤ sizeLine + 1 := by
    rw [Array.size_map, hp.size_eq, pairsOf_size, sizeLine_eq]; lia
  refine wpAny_bind (listUpdate_at q2 rfl ?_ (hsz2 := z2))
  rw [hf]
  simp only [bne_self_eq_false, Bool.false_eq_true, if_false]
  obtain ⟨ns', b1, b2, b3⟩ := sorted_out hI hp hs
  exact wpAny_pure (h _ ns' b1 b2 b3)
theorem sorted_any {l : Addr} {vs : List Value} {ns : List Int} {Q : Value → Shared → Prop} (hl : s.heap.IsList l vs.toArray) (hI : IntsAre vs ns) (hlen : vs.length ≤ 16777216)
    (h : ∀ (out : Array Value) (ns' : List Int), IntsAre out.toList ns' → ns'.Perm ns → ns'.Pairwise (· ≤ ·) → Q (.ref (s.heap.objs.size + 1)) { s with heap := sortedAll s.heap vs out }) :
    wpAny (model prog w) A (call (.builtin "sorted") [.ref l]) Q E s := by
  refine Calls.call_function_entry kind_sorted plain_sorted entry_sorted (args_sorted1 _) ?_
  unfold Builtin.«sorted»
  refine wpAny_bind (m := checkCount "sorted" 1 1 _) (wpAny_pure ?_)
  refine wpAny_bind (collect_list hl ?_ (hsz := by rw [sizeLine_eq]; exact hlen))
  refine wpAny_bind (wpAny_newList ?_)
  have z : ((s.heap.push (seqObj "list" #[] 0)).update s.heap.objs.size (Obj.mapSeq (· ++ vs.toArray))).objs.size = s.heap.objs.size + 1 := by rw [Heap.size_update, size_push']
  have q : (((s.heap.push (seqObj "list" #[] 0)).update s.heap.objs.size (Obj.mapSeq (· ++ vs.toArray))).push (seqObj "list" vs.toArray 0)).get? (s.heap.objs.size + 1) = some (seqObj "list" vs.toArray 0) := by
    rw [← z]; exact Heap.get?_push_size _ rfl
  show wpAny _ _ _ _ _ { s with heap := ((s.heap.push (seqObj "list" #[] 0)).update s.heap.objs.size (Obj.mapSeq (· ++ vs.toArray))).push (seqObj "list" vs.toArray 0) }
  rw [z]
  refine wpAny_bind (wpAny_holding (wpAny_call_entry slot_list_sort ⟨_, q, rfl⟩ entry_list_sort (sort_tree q hI hlen fun out ns' b1 b2 b3 => ⟨_, rfl, ?_⟩) (args_list_sort _)))
  exact wpAny_pure ⟨_, rfl, h out ns' b1 b2 b3⟩
end
end Fl

namespace Fl
open PySem PyProof.Rows

/-- the names of a frame and what they hold, where it is known -/
abbrev Rho := List (Str × Option Value)
inductive Look (x : Str) (v : Value) : Rho → Prop
  | head {r} : Look x v ((x, some v) :: r)
  | tail {p r} : Look x v r → Look x v (p :: r)
inductive Put (x : Str) (v : Value) : Rho → Rho → Prop
  | head {w r} : Put x v ((x, w) :: r) ((x, some v) :: r)
  | tail {p r r'} : Put x v r r' → Put x v (p :: r) (p :: r')
theorem Look.mem {x : Str} {v : Value} {ρ : Rho} (h : Look x v ρ) : x ∈ ρ.map (·.1) := by
  induction h with
  | head => exact List.mem_cons_self ..
  | tail _ ih => exact List.mem_cons_of_mem _ ih
theorem Look.in_ {x : Str} {v : Value} {ρ : Rho} (h : Look x v ρ) : (x, some v) ∈ ρ := by
  induction h with
  | head => exact List.mem_cons_self ..
  | tail _ ih => exact List.mem_cons_of_mem _ ih
theorem Put.names {x : Str} {v : Value} {ρ ρ' : Rho} (h : Put x v ρ ρ') : ρ'.map (·.1) = ρ.map (·.1) := by
  induction h with
  | head => rfl
  | tail _ ih => simp only [List.map_cons, ih]
theorem Put.mem {x : Str} {v : Value} {ρ ρ' : Rho} (h : Put x v ρ ρ') : x ∈ ρ.map (·.1) := by
  induction h with
  | head => exact List.mem_cons_self ..
  | tail _ ih => exact List.mem_cons_of_mem _ ih
/-- what is looked up behind a store: the name stored, or another name as before -/
theorem Put.look {x : Str} {v : Value} {ρ ρ' : Rho} (h : Put x v ρ ρ') (nd : (ρ.map (·.1)).Nodup) {y : Str} {u : Value} (hy : Look y u ρ') : (y = x ∧ u = v) ∨ (y ≠ x ∧ Look y u ρ) := by
  induction h with
  | head =>
    cases hy with
    | head => exact .inl ⟨rfl, rfl⟩
    | tail hy =>
      refine .inr ⟨fun e => ?_, .tail hy⟩
      rw [List.map_cons, List.nodup_cons] at nd
      exact nd.1 (e ▸ hy.mem)
  | tail hp ih =>
    rw [List.map_cons, List.nodup_cons] at nd
    cases hy with
    | head => exact .inr ⟨fun e => nd.1 (e ▸ hp.mem), .head⟩
    | tail hy =>
      rcases ih nd.2 hy with h | ⟨h1, h2⟩
      · exact .inl h
      · exact .inr ⟨h1, .tail h2⟩

/-- all that stands in h stands in h' -/
abbrev Sub (h h' : Heap) : Prop := ∀ b o, h.get? b = some o → h'.get? b = some o
theorem Sub.refl (h : Heap) : Sub h h := fun _ _ e => e
theorem Sub.trans {h₁ h₂ h₃ : Heap} (x : Sub h₁ h₂) (y : Sub h₂ h₃) : Sub h₁ h₃ := fun b o e => y b o (x b o e)
theorem Sub.none {h h' : Heap} (x : Sub h h') {a : Addr} (e : h'.get? a = none) : h.get? a = none := by
  cases q : h.get? a with
  | none => rfl
  | some o => rw [x _ _ q] at e; cases e

/-- the state of a frame in its run: b whether it may store; s₀ the state that it was entered in, h₀ a part of the heap that stays, ρ what its names hold, Λ objects that may be changed -/
structure CS (b : Bool) (s₀ : Shared) (h₀ : Heap) (env : Env) (ρ : Rho) (Λ : List (Addr × Obj)) (s : Shared) : Prop where
  kind : env.scope.kind = .function
  same : ∃ h tk, s = { s₀ with heap := h, toks := tk }
  base : Sub h₀ s.heap
  all : b = false → Sub s₀.heap s.heap
  ns : ∃ m, s.heap.Ns env.locals m ∧ ∀ x v, Look x v ρ → env.kindOf x = some .local → m x = some v
  cell : ∀ x v c, Look x v ρ → env.kindOf x = some .cell → env.cells.lookup x = some c → s.heap.IsCell c (some v)
  cells : ∀ n c, env.cells.lookup n = some c → (∃ v, s.heap.IsCell c v) ∧ c ≠ env.locals ∧ (b = true → h₀.get? c = none)
  apart : ∀ n n' c, env.cells.lookup n = some c → env.cells.lookup n' = some c → n = n'
  kinds : ∀ x, x ∈ ρ.map (·.1) → env.kindOf x = some .local ∨ (env.kindOf x = some .cell ∧ ∃ c, env.cells.lookup x = some c)
  locs : b = true → h₀.get? env.locals = none
  nd : (ρ.map (·.1)).Nodup
  led : ∀ p ∈ Λ, s.heap.get? p.1 = some p.2 ∧ p.1 ≠ env.locals ∧ (∀ n, env.cells.lookup n ≠ some p.1) ∧ (b = true → h₀.get? p.1 = none)
  lnd : (Λ.map (·.1)).Nodup

namespace CS
variable {b : Bool} {s₀ s s' : Shared} {h₀ h₁ : Heap} {env : Env} {ρ ρ' : Rho} {Λ Λ' : List (Addr × Obj)}

theorem keeps (S : CS b s₀ h₀ env ρ Λ s) (k : Keeps s s') : CS b s₀ h₀ env ρ Λ s' := by
  obtain ⟨h', tk, rfl, hk⟩ := k
  refine ⟨S.kind, ?_, S.base.trans hk, fun q => (S.all q).trans hk, ?_, fun x v c a b d => (S.cell x v c a b d).keeps hk, fun n c e => ?_, S.apart, S.kinds, S.locs, S.nd, fun p hp => ?_, S.lnd⟩
  · obtain ⟨h, t, rfl⟩ := S.same; exact ⟨h', tk, rfl⟩
  · obtain ⟨m, hn, hm⟩ := S.ns; exact ⟨m, hn.keeps hk, hm⟩
  · obtain ⟨⟨v, hv⟩, r⟩ := S.cells n c e; exact ⟨⟨v, hv.keeps hk⟩, r⟩
  · obtain ⟨a, r⟩ := S.led p hp; exact ⟨hk _ _ a, r⟩
theorem tok (S : CS b s₀ h₀ env ρ Λ s) (tk : Nat) : CS b s₀ h₀ env ρ Λ { s with toks := tk } := S.keeps ⟨s.heap, tk, rfl, fun _ _ e => e⟩
/-- a frame that changes nothing that stood: behind it all stands as before -/
theorem out (S : CS b s₀ s₀.heap env ρ Λ s) : Keeps s₀ s := by
  obtain ⟨h, tk, e⟩ := S.same
  refine ⟨h, tk, e, fun b o q => ?_⟩
  have := S.base b o q
  rw [e] at this; exact this
theorem quiet (S : CS false s₀ h₀ env ρ Λ s) : Keeps s₀ s := by
  obtain ⟨h, tk, e⟩ := S.same
  refine ⟨h, tk, e, fun b o q => ?_⟩
  have := S.all rfl b o q
  rw [e] at this; exact this
/-- a smaller part that stays -/
theorem drop (S : CS b s₀ h₁ env ρ Λ s) (k : Sub h₀ h₁) : CS b s₀ h₀ env ρ Λ s :=
  ⟨S.kind, S.same, k.trans S.base, S.all, S.ns, S.cell, fun n c e => let ⟨a, b, c⟩ := S.cells n c e; ⟨a, b, fun q => k.none (c q)⟩, S.apart, S.kinds, fun q => k.none (S.locs q), S.nd,
    fun p hp => let ⟨a, b, c, d⟩ := S.led p hp; ⟨a, b, c, fun q => k.none (d q)⟩, S.lnd⟩

theorem look {x : Str} {v : Value} {Q : Value → Shared → Prop} {M : Model} {A : Around} {E : Value → Shared → Prop} (S : CS b s₀ h₀ env ρ Λ s) (hx : Look x v ρ) (h : Q v s) : wpAny M A (loadName env x) Q E s := by
  rcases S.kinds x hx.mem with hl | ⟨hc, c, hcl⟩
  · obtain ⟨m, hn, hm⟩ := S.ns
    exact wpAny_loadName_local S.kind hl hn (hm x v hx hl) h
  · exact wpAny_loadName_cell S.kind hc hcl (S.cell x v c hx hc hcl) h

theorem put {x : Str} {v : Value} {Q : Unit → Shared → Prop} {M : Model} {A : Around} {E : Value → Shared → Prop} (S : CS true s₀ h₀ env ρ Λ s) (hx : Put x v ρ ρ')
    (h : ∀ s', CS true s₀ h₀ env ρ' Λ s' → Q () s') : wpAny M A (storeName env x v) Q E s := by
  have nd' : (ρ'.map (·.1)).Nodup := hx.names ▸ S.nd
  have kinds' : ∀ y, y ∈ ρ'.map (·.1) → env.kindOf y = some .local ∨ (env.kindOf y = some .cell ∧ ∃ c, env.cells.lookup y = some c) := fun y hy => S.kinds y (hx.names ▸ hy)
  rcases S.kinds x hx.mem with hl | ⟨hc, c, hcl⟩
  · obtain ⟨m, hn, hm⟩ := S.ns
    refine wpAny_storeName_local hl hn (fun h' hn' hs' => h _ ?_) (by rw [S.kind]; rfl)
    have up : ∀ b o, b ≠ env.locals → s.heap.get? b = some o → h'.get? b = some o := fun b o hb e => hs'.extBut b o hb e
    refine ⟨S.kind, ?_, fun b o e => up b o (fun q => ?_) (S.base b o e), (fun q => nomatch q), ⟨_, hn', fun y u hy hk => ?_⟩, fun y u c hy hk hc => ?_, fun n c e => ?_, S.apart, kinds', S.locs, nd', fun p hp => ?_, S.lnd⟩
    · obtain ⟨h, t, rfl⟩ := S.same; exact ⟨h', _, rfl⟩
    · rw [q, S.locs rfl] at e; cases e
    · rcases hx.look S.nd hy with ⟨rfl, rfl⟩ | ⟨h1, h2⟩
      · exact if_pos rfl
      · exact (if_neg h1).trans (hm y u h2 hk)
    · rcases hx.look S.nd hy with ⟨rfl, rfl⟩ | ⟨h1, h2⟩
      · rw [hl] at hk; cases hk
      · exact (S.cell y u c h2 hk hc).sameBut hs' (S.cells y c hc).2.1
    · obtain ⟨⟨w, hw⟩, r⟩ := S.cells n c e
      exact ⟨⟨w, hw.sameBut hs' r.1⟩, r⟩
    · obtain ⟨a, b, r⟩ := S.led p hp
      exact ⟨up _ _ b a, b, r⟩
  · obtain ⟨⟨v₀, hv₀⟩, hcL, hc0⟩ := S.cells x c hcl
    refine wpAny_storeName_cell S.kind hc hcl hv₀ (fun h' hn' hs' => h _ ?_)
    have up : ∀ b o, b ≠ c → s.heap.get? b = some o → h'.get? b = some o := fun b o hb e => hs'.extBut b o hb e
    obtain ⟨m, hn, hm⟩ := S.ns
    refine ⟨S.kind, ?_, fun b o e => up b o (fun q => ?_) (S.base b o e), (fun q => nomatch q), ⟨m, hn.sameBut hs' hcL.symm, fun y u hy hk => ?_⟩, fun y u c' hy hk hc' => ?_, fun n c' e => ?_, S.apart, kinds', S.locs, nd', fun p hp => ?_, S.lnd⟩
    · obtain ⟨h, t, rfl⟩ := S.same; exact ⟨h', _, rfl⟩
    · rw [q, hc0 rfl] at e; cases e
    · rcases hx.look S.nd hy with ⟨rfl, rfl⟩ | ⟨h1, h2⟩
      · rw [hc] at hk; cases hk
      · exact hm y u h2 hk
    · rcases hx.look S.nd hy with ⟨rfl, rfl⟩ | ⟨h1, h2⟩
      · rw [hcl] at hc'; cases hc'; exact hn'
      · refine (S.cell y u c' h2 hk hc').sameBut hs' fun q => h1 ?_
        subst q; exact S.apart _ _ _ hc' hcl
    · obtain ⟨⟨w, hw⟩, r⟩ := S.cells n c' e
      by_cases q : c' = c
      · exact ⟨⟨_, q ▸ hn'⟩, r⟩
      · exact ⟨⟨w, hw.sameBut hs' q⟩, r⟩
    · obtain ⟨a, b, c', d⟩ := S.led p hp
      exact ⟨up _ _ (fun q => c' x (q ▸ hcl)) a, b, c', d⟩

/-- the objects' addresses of a frame's own -/
def own (env : Env) (Λ : List (Addr × Obj)) (a : Addr) : Prop := a = env.locals ∨ (∃ n, env.cells.lookup n = some a) ∨ a ∈ Λ.map (·.1)
theorem own_at (S : CS b s₀ h₀ env ρ Λ s) {a : Addr} (h : own env Λ a) : ∃ o, s.heap.get? a = some o := by
  rcases h with rfl | ⟨n, e⟩ | h
  · obtain ⟨m, ⟨o, _, _, q, _⟩, _⟩ := S.ns; exact ⟨o, q⟩
  · obtain ⟨⟨v, o, q, _⟩, _⟩ := S.cells n a e; exact ⟨o, q⟩
  · obtain ⟨p, hp, rfl⟩ := List.mem_map.mp h; exact ⟨_, (S.led p hp).1⟩
theorem own_no (S : CS true s₀ h₀ env ρ Λ s) {a : Addr} (h : own env Λ a) : h₀.get? a = none := by
  rcases h with rfl | ⟨n, e⟩ | h
  · exact S.locs rfl
  · exact (S.cells n a e).2.2 rfl
  · obtain ⟨p, hp, rfl⟩ := List.mem_map.mp h; exact (S.led p hp).2.2.2 rfl
/-- another part that stays: any part of the heap that holds none of the frame's own -/
theorem rebase (S : CS b s₀ h₀ env ρ Λ s) (k : Sub h₁ s.heap) (n : ∀ a, own env Λ a → h₁.get? a = none) : CS b s₀ h₁ env ρ Λ s :=
  ⟨S.kind, S.same, k, S.all, S.ns, S.cell, fun x c e => let ⟨a, b, _⟩ := S.cells x c e; ⟨a, b, fun _ => n _ (.inr (.inl ⟨x, e⟩))⟩, S.apart, S.kinds, fun _ => n _ (.inl rfl), S.nd,
    fun p hp => let ⟨a, b, c, _⟩ := S.led p hp; ⟨a, b, c, fun _ => n _ (.inr (.inr (List.mem_map_of_mem hp)))⟩, S.lnd⟩
end CS
end Fl

namespace Fl
open PySem PyProof.Rows

open Classical in
/-- the heap without the objects at some addresses -/
noncomputable def without (h : Heap) (P : Addr → Prop) : Heap := { h with objs := h.objs.mapIdx fun i o => if P i then { o with data := .freed } else o }
theorem without_none {h : Heap} {P : Addr → Prop} {a : Addr} (p : P a) : (without h P).get? a = none := by
  cases q : (without h P).get? a with
  | none => rfl
  | some o =>
    obtain ⟨h1, h2⟩ := Heap.get?_some_iff.mp q
    unfold without at h1
    rw [Array.getElem?_mapIdx] at h1
    cases e : h.objs[a]? with
    | none => rw [e] at h1; cases h1
    | some o' => rw [e] at h1; simp only [Option.map_some, if_pos p, Option.some.injEq] at h1; subst h1; cases h2
theorem without_get {h : Heap} {P : Addr → Prop} {a : Addr} {o : Obj} (p : ¬ P a) (e : h.get? a = some o) : (without h P).get? a = some o := by
  obtain ⟨h1, h2⟩ := Heap.get?_some_iff.mp e
  refine Heap.get?_some_iff.mpr ⟨?_, h2⟩
  unfold without
  rw [Array.getElem?_mapIdx, h1]
  simp only [Option.map_some, if_neg p]
theorem of_without {h : Heap} {P : Addr → Prop} {a : Addr} {o : Obj} (e : (without h P).get? a = some o) : h.get? a = some o ∧ ¬ P a := by
  by_cases p : P a
  · rw [without_none p] at e; cases e
  · refine ⟨?_, p⟩
    obtain ⟨h1, h2⟩ := Heap.get?_some_iff.mp e
    refine Heap.get?_some_iff.mpr ⟨?_, h2⟩
    unfold without at h1
    rw [Array.getElem?_mapIdx] at h1
    cases q : h.objs[a]? with
    | none => rw [q] at h1; cases h1
    | some o' => rw [q] at h1; simp only [Option.map_some, if_neg p] at h1; exact h1
theorem without_sub (h : Heap) (P : Addr → Prop) : Sub (without h P) h := fun _ _ e => (of_without e).1

theorem fresh_none {h : Heap} {a : Addr} (k : h.objs.size ≤ a) : h.get? a = none := by
  cases q : h.get? a with
  | none => rfl
  | some o => exact absurd (Heap.lt_size q) (Nat.not_lt.mpr k)

namespace CS
variable {b : Bool} {s₀ s s' : Shared} {h₀ h₁ : Heap} {env : Env} {ρ ρ' : Rho} {Λ Λ' : List (Addr × Obj)}
/-- all that stands but the frame's own stays from now on -/
theorem wide (S : CS true s₀ h₀ env ρ Λ s) : ∃ h₁, Sub h₀ h₁ ∧ CS true s₀ h₁ env ρ Λ s ∧ ∀ a o, s.heap.get? a = some o → ¬ own env Λ a → h₁.get? a = some o := by
  refine ⟨without s.heap (own env Λ), fun a o e => without_get (fun h => ?_) (S.base a o e), S.rebase (without_sub _ _) fun a h => without_none h, fun a o e h => without_get h e⟩
  rw [S.own_no h] at e; cases e
/-- what a call has made newly (it changed nothing that stood) stays from now on -/
theorem grow (S : CS true s₀ h₀ env ρ Λ s) (k : Keeps s s') : ∃ h₁, Sub h₀ h₁ ∧ CS true s₀ h₁ env ρ Λ s' ∧ ∀ a o, s.heap.get? a = none → s'.heap.get? a = some o → h₁.get? a = some o := by
  obtain ⟨h₁, h1, h2, h3⟩ := (S.keeps k).wide
  refine ⟨h₁, h1, h2, fun a o e q => h3 a o q fun w => ?_⟩
  obtain ⟨o', w⟩ := S.own_at w
  rw [w] at e; cases e
end CS

/-- the names of a def's frame at its start -/
def rho0 (names : List (Str × NameKind)) (binds : List (Str × Value)) : Rho := names.filterMap fun x => if x.2 = .local ∨ x.2 = .cell then some (x.1, binds.lookup x.1) else none

theorem lookup_of_nodup {α : Type} : ∀ {l : List (Str × α)} {x : Str} {v : α}, (l.map (·.1)).Nodup → (x, v) ∈ l → l.lookup x = some v
  | (y, u) :: r, x, v, nd, h => by
    rw [List.map_cons, List.nodup_cons] at nd
    rw [List.lookup_cons]
    rcases List.mem_cons.mp h with e | h'
    · cases e; simp
    · have : (x == y) = false := by
        rw [beq_eq_false_iff_ne]
        intro q
        exact nd.1 (List.mem_map.mpr ⟨(x, v), h', q⟩)
      rw [this]
      exact lookup_of_nodup nd.2 h'

theorem bindL_look {kindOf : Str → Option NameKind} : ∀ {binds : List (Str × Value)} {m : Str → Option Value} {x : Str}, (binds.map (·.1)).Nodup → kindOf x = some .local →
    bindL kindOf binds m x = (match binds.lookup x with | some v => some v | none => m x)
  | [], _, _, _, _ => rfl
  | (n, v) :: r, m, x, nd, hk => by
    rw [List.map_cons, List.nodup_cons] at nd
    simp only [bindL, List.lookup_cons]
    rw [bindL_look nd.2 hk]
    by_cases e : x = n
    · subst e
      have hr : r.lookup x = none := by
        cases q : r.lookup x with
        | none => rfl
        | some u => exact absurd (List.mem_map.mpr ⟨(x, u), mem_of_lookup q, rfl⟩) nd.1
      simp [hr, hk]
    · have hb : (x == n) = false := beq_eq_false_iff_ne.mpr e
      (first | with_reducible refine jBt hb ?_ | with_reducible refine jBf hb ?_ | with_reducible refine jBn hb ?_ | with_reducible refine jBm hb ?_ | rw [hb])
      cases r.lookup x with
      | some u => rfl
      | none =>
        show (if kindOf n = some .local then fun y => if y = n then some v else m y else m) x = m x
        split
        · exact if_neg e
        · rfl
theorem bindC_look {kindOf : Str → Option NameKind} : ∀ {binds : List (Str × Value)} {m : Str → Option Value} {x : Str}, (binds.map (·.1)).Nodup → kindOf x = some .cell →
    bindC kindOf binds m x = (match binds.lookup x with | some v => some v | none => m x)
  | [], _, _, _, _ => rfl
  | (n, v) :: r, m, x, nd, hk => by
    rw [List.map_cons, List.nodup_cons] at nd
    simp only [bindC, List.lookup_cons]
    rw [bindC_look nd.2 hk]
    by_cases e : x = n
    · subst e
      have hr : r.lookup x = none := by
        cases q : r.lookup x with
        | none => rfl
        | some u => exact absurd (List.mem_map.mpr ⟨(x, u), mem_of_lookup q, rfl⟩) nd.1
      simp [hr, hk]
    · have hb : (x == n) = false := beq_eq_false_iff_ne.mpr e
      (first | with_reducible refine jBt hb ?_ | with_reducible refine jBf hb ?_ | with_reducible refine jBn hb ?_ | with_reducible refine jBm hb ?_ | rw [hb])
      cases r.lookup x with
      | some u => rfl
      | none =>
        show (if kindOf n = some .local then m else fun y => if y = n then some v else m y) x = m x
        split
        · rfl
        · exact if_neg e

theorem rho0_in {names : List (Str × NameKind)} {binds : List (Str × Value)} {x : Str} {v : Option Value} (h : (x, v) ∈ rho0 names binds) : ∃ k, (x, k) ∈ names ∧ (k = .local ∨ k = .cell) ∧ binds.lookup x = v := by
  obtain ⟨⟨y, k⟩, h1, h2⟩ := List.mem_filterMap.mp h
  split at h2
  · rename_i hk
    cases h2
    exact ⟨k, h1, hk, rfl⟩
  · cases h2
theorem rho0_nodup : ∀ {names : List (Str × NameKind)} {binds : List (Str × Value)}, (names.map (·.1)).Nodup → ((rho0 names binds).map (·.1)).Nodup
  | [], _, _ => List.nodup_nil
  | (y, k) :: r, binds, nd => by
    rw [List.map_cons, List.nodup_cons] at nd
    unfold rho0
    rw [List.filterMap_cons]
    split
    · exact rho0_nodup nd.2
    · rename_i b hb
      split at hb
      · cases hb
        rw [List.map_cons, List.nodup_cons]
        refine ⟨fun h => nd.1 ?_, rho0_nodup nd.2⟩
        obtain ⟨⟨x, v⟩, h1, h2⟩ := List.mem_map.mp h
        obtain ⟨k', h3, _⟩ := rho0_in h1
        exact List.mem_map.mpr ⟨(x, k'), h3, h2⟩
      · cases hb

/-- the frame of a def at its start -/
theorem enterCS {s s₁ : Shared} {fd : FuncData} {a : Addr} {binds : List (Str × Value)} {h₀ : Heap} {Λ : List (Addr × Obj)}
    (x : InCallC s (callEnvC fd s.heap.objs.size a).locals (bindL (callEnvC fd s.heap.objs.size a).kindOf binds fun _ => none) (callEnvC fd s.heap.objs.size a).cells (bindC (callEnvC fd s.heap.objs.size a).kindOf binds fun _ => none) s₁)
    (hk : fd.scope.kind = .function) (hnd : (fd.scope.names.map (·.1)).Nodup) (hbd : (binds.map (·.1)).Nodup) (hcs : ∀ n, fd.scope.names.lookup n = some .cell → ∃ c, (callEnvC fd s.heap.objs.size a).cells.lookup n = some c)
    (hb : Sub h₀ s.heap) (hΛ : ∀ p ∈ Λ, s.heap.get? p.1 = some p.2 ∧ h₀.get? p.1 = none) (hΛn : (Λ.map (·.1)).Nodup) : CS true s h₀ (callEnvC fd s.heap.objs.size a) (rho0 fd.scope.names binds) Λ s₁ := by
  have kin : ∀ {y : Str} {v : Option Value}, (y, v) ∈ rho0 fd.scope.names binds → ((callEnvC fd s.heap.objs.size a).kindOf y = some .local ∨ (callEnvC fd s.heap.objs.size a).kindOf y = some .cell) ∧ binds.lookup y = v := fun h => by
    obtain ⟨k, h1, h2, h3⟩ := rho0_in h
    refine ⟨?_, h3⟩
    show fd.scope.names.lookup _ = _ ∨ fd.scope.names.lookup _ = _
    rw [lookup_of_nodup hnd h1]
    rcases h2 with rfl | rfl
    · exact .inl rfl
    · exact .inr rfl
  have up : ∀ {c : Addr}, s.heap.objs.size ≤ c → h₀.get? c = none := fun h => hb.none (fresh_none h)
  have hL : (callEnvC fd s.heap.objs.size a).locals = s.heap.objs.size := rfl
  refine ⟨hk, x.toInCall.same, hb.trans x.toInCall.keep, (fun q => nomatch q), ⟨_, x.toInCall.ns, fun y v hy hl => ?_⟩, fun y v c hy hl hc => ?_, fun n c e => ⟨⟨_, x.cell n c e⟩, ?_, fun _ => up ?_⟩, fun n n' c e e' => ?_, fun y hy => ?_, fun _ => up (Nat.le_refl _), rho0_nodup hnd,
    fun p hp => ⟨x.toInCall.keep _ _ (hΛ p hp).1, ?_, fun n e => ?_, fun _ => (hΛ p hp).2⟩, hΛn⟩
  · rw [bindL_look hbd hl, (kin hy.in_).2]
  · have := x.cell y c hc
    rw [bindC_look hbd hl, (kin hy.in_).2] at this
    exact this
  · exact Nat.ne_of_gt (x.above n c (mem_of_lookup e))
  · exact Nat.le_of_lt (x.above n c (mem_of_lookup e))
  · exact name_of_addr x.apart (mem_of_lookup e) (mem_of_lookup e')
  · obtain ⟨⟨y', v⟩, h1, rfl⟩ := List.mem_map.mp hy
    rcases (kin h1).1 with h | h
    · exact .inl h
    · exact .inr ⟨h, hcs _ h⟩
  · exact Nat.ne_of_lt (Heap.lt_size (hΛ p hp).1)
  · exact absurd (Heap.lt_size (hΛ p hp).1) (Nat.not_lt.mpr (Nat.le_of_lt (x.above n p.1 (mem_of_lookup e))))

theorem cellsFrom_has {x : Str} : ∀ (names : List (Str × NameKind)) (n : Nat) (acc : List (Str × Addr)), names.lookup x = some .cell ∨ (∃ c, acc.lookup x = some c) → ∃ c, (cellsFrom n names acc).lookup x = some c
  | [], _, _, h => h.elim (fun e => by cases e) id
  | (y, k) :: r, n, acc, h => by
    unfold cellsFrom
    by_cases hk : (k == .cell) = true
    · rw [if_pos hk]
      refine cellsFrom_has r (n + 1) ((y, n) :: acc) ?_
      by_cases hy : (x == y) = true
      · exact .inr ⟨n, by rw [List.lookup_cons, hy]⟩
      · rcases h with h | ⟨c, h⟩
        · rw [List.lookup_cons] at h; simp only [hy] at h; exact .inl h
        · exact .inr ⟨c, by rw [List.lookup_cons]; simp only [hy]; exact h⟩
    · rw [if_neg hk]
      refine cellsFrom_has r n acc ?_
      rcases h with h | h
      · by_cases hy : (x == y) = true
        · rw [List.lookup_cons, hy] at h
          exact absurd (by rw [Option.some.inj h]; rfl) hk
        · rw [List.lookup_cons] at h; simp only [hy] at h; exact .inl h
      · exact .inr h

/-- a def of the text called: its body in a frame of its own -/
theorem call_def {prog : Program} {w : World} {A : Around} {s : Shared} {R : Result → Shared → Prop} {a : Addr} {o : Obj} {fd : FuncData} {body : List Stmt} {vals : List Value} {binds : List (Str × Value)} {ρ : Rho} {h₀ : Heap} {Λ : List (Addr × Obj)}
    (hroom : A.depth < recursionLimit) (ho : s.heap.get? a = some o) (hdata : o.data = .func fd) (hlim : s.heap.NoLimit) (hcd : s.heap.CodeRec fd.code fd.qualname)
    (hbody : fd.body = .stmts body) (hbind : bindArgs fd ⟨vals, []⟩ = pure binds) (hclo : fd.closure = [])
    (hb1 : (binds.all fun y => fd.scope.names.lookup y.1 == some .local || fd.scope.names.lookup y.1 == some .cell) = true) (hb2 : (binds.map (·.1)).Nodup) (hnd : (fd.scope.names.map (·.1)).Nodup) (hρ : rho0 fd.scope.names binds = ρ)
    (hb : Sub h₀ s.heap) (hΛ : ∀ p ∈ Λ, s.heap.get? p.1 = some p.2 ∧ h₀.get? p.1 = none) (hΛn : (Λ.map (·.1)).Nodup)
    (h : ∀ s₁, CS true s h₀ (callEnvC fd s.heap.objs.size a) ρ Λ s₁ →
      wpAny (model prog w) (A.deeper (callEnvC fd s.heap.objs.size a)) (execs body (callEnvC fd s.heap.objs.size a)) (fun f s' => R (.ok (.ret (match f with | .ret v => v | _ => .none))) s')
        (fun e s' => wpAny (model prog w) (A.deeper (callEnvC fd s.heap.objs.size a)) (leaving (callEnvC fd s.heap.objs.size a) e) (fun _ s'' => R (.error e) s'') (fun e' s'' => R (.error e') s'') s') s₁)
    (hco : fd.scope.isCoroutine = false) (hgen : fd.scope.isGenerator = false) (hk : fd.scope.kind = .function) :
    codeAny (model prog w) A (.call (.ref a) ⟨vals, []⟩) R s := by
  have hcs : ∀ n m, fd.scope.names.lookup n = some .cell → ∃ c, (cellsFrom m fd.scope.names []).lookup n = some c := fun n m e => cellsFrom_has _ _ _ (.inl e)
  refine codeAny_call_cells hroom ho hdata hlim hcd hbody hbind hclo (fun x hx => ?_) (fun s₁ x => ?_) hco hgen hk
  · have := List.all_eq_true.mp hb1 x hx
    rcases Bool.or_eq_true_iff.mp this with q | q
    · exact .inl (beq_iff_eq.mp q)
    · refine .inr ⟨beq_iff_eq.mp q, ?_⟩
      obtain ⟨c, e⟩ := hcs x.1 (s.heap.objs.size + 1) (beq_iff_eq.mp q)
      rw [e]; rfl
  · have := enterCS x hk hnd hb2 (fun n e => hcs n _ e) hb hΛ hΛn
    exact h s₁ (hρ ▸ this)
end Fl

namespace Fl
open PySem PyProof.Rows

namespace CS
variable {b : Bool} {s₀ s s' : Shared} {h₀ h₁ : Heap} {env : Env} {ρ ρ' : Rho} {Λ Λ' : List (Addr × Obj)}
/-- some objects are changed that are neither the frame's own nor of the part that stays -/
theorem but (S : CS true s₀ h₀ env ρ Λ s) {wr : List Addr} {h' : Heap} {tk : Nat} (hk : ∀ a o, a ∉ wr → s.heap.get? a = some o → h'.get? a = some o) (h1 : ∀ a ∈ wr, h₀.get? a = none) (h2 : ∀ a ∈ wr, ¬ own env Λ a) :
    CS true s₀ h₀ env ρ Λ { s with heap := h', toks := tk } := by
  have hL : env.locals ∉ wr := fun h => h2 _ h (.inl rfl)
  have hC : ∀ n c, env.cells.lookup n = some c → c ∉ wr := fun n c e h => h2 _ h (.inr (.inl ⟨n, e⟩))
  refine ⟨S.kind, ?_, fun a o e => hk a o (fun h => ?_) (S.base a o e), (fun q => nomatch q), ?_, fun x v c a1 a2 a3 => ?_, fun n c e => ?_, S.apart, S.kinds, S.locs, S.nd, fun p hp => ?_, S.lnd⟩
  · obtain ⟨h, t, rfl⟩ := S.same; exact ⟨h', tk, rfl⟩
  · rw [h1 a h] at e; cases e
  · obtain ⟨m, hn, hm⟩ := S.ns; exact ⟨m, hn.at' fun o e => hk _ o hL e, hm⟩
  · obtain ⟨o, e, r⟩ := S.cell x v c a1 a2 a3; exact ⟨o, hk _ o (hC x c a3) e, r⟩
  · obtain ⟨⟨v, o, e', r'⟩, r⟩ := S.cells n c e; exact ⟨⟨v, o, hk _ o (hC n c e) e', r'⟩, r⟩
  · obtain ⟨a, r⟩ := S.led p hp; exact ⟨hk _ _ (fun h => h2 _ h (.inr (.inr (List.mem_map_of_mem hp)))) a, r⟩
theorem own_adr (e : Λ'.map (·.1) = Λ.map (·.1)) {a : Addr} : own env Λ' a ↔ own env Λ a := by unfold own; rw [e]
end CS

section
variable {prog : Program} {w : World} {A : Around} {s s₀ : Shared} {h₀ : Heap} {env : Env} {ρ : Rho} {Λ : List (Addr × Obj)} {E : Value → Shared → Prop} {Q : Flow → Shared → Prop}

/-- a for loop over what an iterator hands out, by what holds of the names and of the changed objects between the turns -/
theorem loop_inv {body : List Stmt} {x : Str} {px : Pos} {I : Addr} {fp wr : List Addr} {n : Nat} {P : Nat → Value → Prop} {St : Nat → Heap → Prop}
    (J : Nat → Rho → List (Addr × Obj) → Prop) (W : Walks prog w A I fp wr n P St) (S : CS true s₀ h₀ env ρ Λ s) (hst : St 0 s.heap) (hfp : ∀ a ∈ fp, ¬ CS.own env Λ a) (hwr : ∀ a ∈ wr, h₀.get? a = none) (hJ : J 0 ρ Λ)
    (hadr : ∀ i ρ' Λ', J i ρ' Λ' → Λ'.map (·.1) = Λ.map (·.1))
    (turn : ∀ i v ρ₁ Λ₁, i < n → P i v → J i ρ₁ Λ₁ → ∃ ρ₂, Put x v ρ₁ ρ₂ ∧ ∀ h₁ s₁, Sub h₀ h₁ → CS true s₀ h₁ env ρ₂ Λ₁ s₁ →
      wpAny (model prog w) A (execs body env) (fun f s₂ => match f with
        | .next | .cont => ∃ h' ρ' Λ', Sub h₁ h' ∧ CS true s₀ h' env ρ' Λ' s₂ ∧ J (i + 1) ρ' Λ'
        | .brk => Q .next s₂
        | .ret v => Q (.ret v) s₂) (notedBy (model prog w) A env fun e s' => cameBackBy (model prog w) A env E e s') s₁)
    (done : ∀ ρ' Λ' s', J n ρ' Λ' → CS true s₀ h₀ env ρ' Λ' s' → Q .next s') :
    codeAny (model prog w) A (.forLoop (.Name x px) (.ref I) body [] env) (fun r s' => match r with | .ok f => Q f s' | .error e => cameBackBy (model prog w) A env E e s') s := by
  refine codeAny_forLoop_any (fun k s' => ∃ i ρ' Λ', k = n - i ∧ i ≤ n ∧ J i ρ' Λ' ∧ CS true s₀ h₀ env ρ' Λ' s' ∧ St i s'.heap) ?_ n ⟨0, ρ, Λ, rfl, Nat.zero_le _, hJ, S, hst⟩
  rintro k s' ⟨i, ρ', Λ', rfl, hi, hJ', S', st'⟩
  have off : ∀ a ∈ fp, ¬ CS.own env Λ' a := fun a ha h => hfp a ha ((CS.own_adr (hadr _ _ _ hJ')).mp h)
  have off2 : ∀ a ∈ wr, ¬ CS.own env Λ' a := fun a ha => off a (W.sub a ha)
  by_cases hlt : i < n
  · refine W.item i s' _ _ hlt st' fun v h' tk hP st₁ hk => ?_
    have S₁ : CS true s₀ h₀ env ρ' Λ' { s' with heap := h', toks := tk } := S'.but hk hwr off2
    obtain ⟨h₁, k1, S₂, k3⟩ := S₁.wide
    obtain ⟨ρ₂, hput, hbody⟩ := turn i v ρ' Λ' hlt hP hJ'
    refine wpAny_of_eq (rfl : letOwnedTupleGo (.Name x px) (.ref I) v = pure ()) (wpAny_assign_Name (S₂.put hput fun s₁ S₃ => ?_))
    refine wpAny_mono (hbody h₁ s₁ k1 S₃) (fun f s₂ hf => ?_) fun _ _ e => e
    have nx : (∃ h' ρ' Λ', Sub h₁ h' ∧ CS true s₀ h' env ρ' Λ' s₂ ∧ J (i + 1) ρ' Λ') → ∃ m, m < n - i ∧ ∃ i ρ' Λ', m = n - i ∧ i ≤ n ∧ J i ρ' Λ' ∧ CS true s₀ h₀ env ρ' Λ' s₂ ∧ St i s₂.heap := by
      rintro ⟨h2, ρ3, Λ3, k4, S4, hJ4⟩
      refine ⟨n - (i + 1), by omega, i + 1, ρ3, Λ3, rfl, hlt, hJ4, S4.drop (k1.trans k4), W.frame _ _ _ st₁ fun a ha o e => ?_⟩
      exact S4.base _ _ (k4 _ _ (k3 a o e (off a ha)))
    cases f with
    | next => exact nx hf
    | cont => exact nx hf
    | brk => exact hf
    | ret v => exact hf
  · have hin : i = n := by omega
    subst hin
    refine W.done s' _ _ st' fun h' tk hk => ?_
    exact wpAny_execs_nil (done _ _ _ hJ' (S'.but hk hwr off2))

end
end Fl

namespace Fl
open PySem PyProof.Rows

/-- the cells that a comprehension's block takes over -/
def closGo (env : Env) : List (Str × NameKind) → List (Str × Addr) → List (Str × Addr)
  | [], acc => acc
  | (n, k) :: r, acc => if k == .free then closGo env r ((n, (env.cells.lookup n).getD 0) :: acc) else closGo env r acc
theorem closureFor_go {scope : Scope} {env : Env} (h : ∀ n, (n, NameKind.free) ∈ scope.names → ∃ c, env.cells.lookup n = some c) : closureFor scope env = pure (closGo env scope.names []) := by
  unfold closureFor
  have go : ∀ (names : List (Str × NameKind)) (acc : List (Str × Addr)), (∀ n, (n, NameKind.free) ∈ names → ∃ c, env.cells.lookup n = some c) →
      (forIn names acc fun (x : Str × NameKind) (r : List (Str × Addr)) => (if (x.2 == NameKind.free) = true then do let a ← cellOf env x.1; pure (ForInStep.yield ((x.1, a) :: r)) else pure (ForInStep.yield r) : Sem (ForInStep (List (Str × Addr)))))
        = pure (closGo env names acc) := by
    intro names
    induction names with
    | nil => intro acc _; rfl
    | cons p r ih =>
      obtain ⟨n, k⟩ := p
      intro acc hh
      rw [List.forIn_cons, closGo]
      by_cases hk : (k == NameKind.free) = true
      · have hk' : k = .free := by cases k <;> first | rfl | cases hk
        subst hk'
        obtain ⟨c, e⟩ := hh n (List.mem_cons_self ..)
        have hc : cellOf env n = pure c := by unfold cellOf; rw [e]
        simp only [hk, if_true, hc, pure_bind]
        rw [e]
        exact ih _ fun m hm => hh m (List.mem_cons_of_mem _ hm)
      · simp only [hk, if_false, pure_bind, Bool.false_eq_true]
        exact ih _ fun m hm => hh m (List.mem_cons_of_mem _ hm)
  have := go scope.names [] h
  simp only [bind_pure]
  exact this
theorem closGo_look {env : Env} {n : Str} {c : Addr} : ∀ (names : List (Str × NameKind)) (acc : List (Str × Addr)), (∀ n c, acc.lookup n = some c → env.cells.lookup n = some c) → (∀ n, (n, NameKind.free) ∈ names → ∃ c, env.cells.lookup n = some c) →
    (closGo env names acc).lookup n = some c → env.cells.lookup n = some c
  | [], _, h, _, e => h _ _ e
  | (m, k) :: r, acc, h, hf, e => by
    unfold closGo at e
    by_cases hk : (k == NameKind.free) = true
    · rw [if_pos hk] at e
      have hk' : k = .free := by cases k <;> first | rfl | cases hk
      subst hk'
      obtain ⟨c', e'⟩ := hf m (List.mem_cons_self ..)
      refine closGo_look r _ (fun n' c'' q => ?_) (fun n' hn => hf n' (List.mem_cons_of_mem _ hn)) e
      rw [List.lookup_cons] at q
      split at q
      · rename_i hb
        have := beq_iff_eq.mp hb
        subst this
        rw [e'] at q
        cases q
        exact e'
      · exact h _ _ q
    · rw [if_neg hk] at e
      exact closGo_look r _ h (fun n' hn => hf n' (List.mem_cons_of_mem _ hn)) e
theorem closGo_has {env : Env} {n : Str} : ∀ (names : List (Str × NameKind)) (acc : List (Str × Addr)), ((n, NameKind.free) ∈ names ∨ ∃ c, acc.lookup n = some c) → ∃ c, (closGo env names acc).lookup n = some c
  | [], _, h => h.elim (fun h => nomatch h) id
  | (m, k) :: r, acc, h => by
    unfold closGo
    by_cases hk : (k == NameKind.free) = true
    · rw [if_pos hk]
      refine closGo_has r _ ?_
      by_cases hm : (n == m) = true
      · exact .inr ⟨_, by rw [List.lookup_cons, hm]⟩
      · rcases h with h | ⟨c, h⟩
        · rcases List.mem_cons.mp h with q | q
          · cases q; simp at hm
          · exact .inl q
        · refine .inr ⟨c, ?_⟩
          rw [List.lookup_cons]; simp only [hm]; exact h
    · rw [if_neg hk]
      refine closGo_has r _ ?_
      rcases h with h | h
      · rcases List.mem_cons.mp h with q | q
        · cases q; exact absurd rfl hk
        · exact .inl q
      · exact .inr h

theorem lookup_relabel {env : Env} {y : Str} : ∀ {names : List (Str × NameKind)}, names.lookup y = some .free → env.scope.kind = .function → env.kindOf y = some .cell →
    (names.map fun (n, k) => if (k == NameKind.free && env.scope.kind == .function && env.kindOf n == some .cell) then (n, NameKind.cell) else (n, k)).lookup y = some .cell
  | [], h, _, _ => by cases h
  | (n, k) :: r, h, hk, hc => by
    rw [List.lookup_cons] at h
    rw [List.map_cons]
    by_cases hy : (y == n) = true
    · have := beq_iff_eq.mp hy
      subst this
      simp only [beq_self_eq_true] at h
      cases h
      simp [hk, hc]
    · simp only [hy] at h
      have ih := lookup_relabel h hk hc
      by_cases hq : (k == NameKind.free && env.scope.kind == .function && env.kindOf n == some .cell) = true
      · simp only [hq, if_true, List.lookup_cons, hy]; exact ih
      · simp only [hq, Bool.false_eq_true, if_false, List.lookup_cons, hy]; exact ih

section
variable {prog : Program} {w : World} {A : Around} {s s₀ s₂ s₃ : Shared} {h₀ : Heap} {env : Env} {ρ ρc : Rho} {Λ : List (Addr × Obj)} {E : Value → Shared → Prop}

/-- the block of a comprehension: its own name, and the names of the frame's that it takes over -/
theorem compCS {scope : Scope} {x : Str} {v : Value} {C : Addr} {m : Str → Option Value} {wr : List Addr} (S : CS true s₀ h₀ env ρ Λ s₂) (hC : s₂.heap.objs.size ≤ C) (hns : s₃.heap.Ns C m) (hm : m x = some v)
    (hk : ∀ a o, a ∉ wr → s₂.heap.get? a = some o → s₃.heap.get? a = some o) (h1 : ∀ a ∈ wr, h₀.get? a = none) (h2 : ∀ a ∈ wr, ¬ CS.own env Λ a)
    (hkind : scope.kind = .function) (hx : scope.names.lookup x = some .local) (hfree : ∀ n, (n, NameKind.free) ∈ scope.names → ∃ c, env.cells.lookup n = some c)
    (hc1 : ∀ y, y ∈ ρc.map (·.1) → scope.names.lookup y = some .free ∧ env.kindOf y = some .cell) (hc2 : ∀ y u, Look y u ρc → Look y u ρ) (hnd : ((x :: ρc.map (·.1))).Nodup) :
    CS false s₃ h₀ (compEnvC scope (closGo env scope.names []) C env) ((x, some v) :: ρc) Λ s₃ := by
  have hC' : ∀ n c, env.cells.lookup n = some c → c ∉ wr := fun n c e h => h2 _ h (.inr (.inl ⟨n, e⟩))
  have lk : ∀ {n c}, (closGo env scope.names []).lookup n = some c → env.cells.lookup n = some c := fun e => closGo_look _ _ (fun _ _ q => by cases q) hfree e
  have hcell : ∀ y u c, Look y u ρ → env.kindOf y = some .cell → env.cells.lookup y = some c → s₃.heap.IsCell c (some u) := fun y u c a b e => by
    obtain ⟨o, q, r⟩ := S.cell y u c a b e; exact ⟨o, hk _ o (hC' y c e) q, r⟩
  have kc : ∀ y, y ∈ ρc.map (·.1) → (compEnvC scope (closGo env scope.names []) C env).kindOf y = some .cell := fun y hy => lookup_relabel (hc1 y hy).1 S.kind (hc1 y hy).2
  have kx : (compEnvC scope (closGo env scope.names []) C env).kindOf x = some .local := lookup_relabel_local hx
  rw [List.nodup_cons] at hnd
  refine ⟨hkind, ⟨s₃.heap, s₃.toks, rfl⟩, fun a o e => hk a o (fun h => by rw [h1 a h] at e; cases e) (S.base a o e), fun _ => Sub.refl _, ⟨m, hns, fun y u hy hl => ?_⟩, fun y u c hy hl hc => ?_, fun n c e => ?_, fun n n' c e e' => S.apart _ _ _ (lk e) (lk e'),
    fun y hy => ?_, (fun q => nomatch q), ?_, fun p hp => ?_, S.lnd⟩
  · cases hy with
    | head => exact hm
    | tail hy => rw [kc y hy.mem] at hl; cases hl
  · cases hy with
    | head => rw [kx] at hl; cases hl
    | tail hy => exact hcell y u c (hc2 y u hy) (hc1 y hy.mem).2 (lk hc)
  · obtain ⟨⟨u, o, q, r⟩, _, _⟩ := S.cells n c (lk e)
    refine ⟨⟨u, o, hk _ o (hC' n c (lk e)) q, r⟩, Nat.ne_of_lt (Nat.lt_of_lt_of_le (Heap.lt_size q) hC), (fun q => nomatch q)⟩
  · rcases List.mem_cons.mp hy with rfl | hy
    · exact .inl kx
    · refine .inr ⟨kc y hy, closGo_has _ _ (.inl (mem_of_lookup (hc1 y hy).1))⟩
  · rw [List.map_cons, List.nodup_cons]; exact hnd
  · obtain ⟨a, b, c, _⟩ := S.led p hp
    exact ⟨hk _ _ (fun h => h2 _ h (.inr (.inr (List.mem_map_of_mem hp)))) a, Nat.ne_of_lt (Nat.lt_of_lt_of_le (Heap.lt_size a) hC), fun n e => c n (lk e), (fun q => nomatch q)⟩

abbrev lst (ys : Array Value) (k : Nat) : Obj := { cls := .type "list", data := .seq ys k }
theorem CS.new (S : CS true s₀ h₀ env ρ Λ s) {s' : Shared} {wr : List Addr} {h' : Heap} {tk : Nat} {D : Addr} {o : Obj} (e : s' = { s with heap := h', toks := tk }) (hk : ∀ a o, a ∉ wr → s.heap.get? a = some o → h'.get? a = some o) (h1 : ∀ a ∈ wr, h₀.get? a = none) (h2 : ∀ a ∈ wr, ¬ CS.own env Λ a)
    (hD : s.heap.get? D = none) (ho : h'.get? D = some o) : CS true s₀ h₀ env ρ ((D, o) :: Λ) s' := by
  subst e
  have S' : CS true s₀ h₀ env ρ Λ { s with heap := h', toks := tk } := S.but hk h1 h2
  have hno : ¬ CS.own env Λ D := fun h => by obtain ⟨o', q⟩ := S.own_at h; rw [hD] at q; cases q
  refine ⟨S'.kind, S'.same, S'.base, S'.all, S'.ns, S'.cell, S'.cells, S'.apart, S'.kinds, S'.locs, S'.nd, fun p hp => ?_, ?_⟩
  · rcases List.mem_cons.mp hp with rfl | hp
    · exact ⟨ho, fun q => hno (.inl q), fun n q => hno (.inr (.inl ⟨n, q⟩)), fun _ => S.base.none hD⟩
    · exact S'.led p hp
  · rw [List.map_cons, List.nodup_cons]
    exact ⟨fun h => hno (.inr (.inr h)), S.lnd⟩
/-- an object of the changed ones is changed no more: it is of the part that stays from now on -/
theorem CS.freeze {a : Addr} {o : Obj} (S : CS true s₀ h₀ env ρ ((a, o) :: Λ) s) : ∃ h₁, Sub h₀ h₁ ∧ h₁.get? a = some o ∧ CS true s₀ h₁ env ρ Λ s := by
  obtain ⟨e, h1, h2, h3⟩ := S.led (a, o) (List.mem_cons_self ..)
  have nd := S.lnd
  rw [List.map_cons, List.nodup_cons] at nd
  have S' : CS true s₀ h₀ env ρ Λ s := ⟨S.kind, S.same, S.base, S.all, S.ns, S.cell, S.cells, S.apart, S.kinds, S.locs, S.nd, fun p hp => S.led p (List.mem_cons_of_mem _ hp), nd.2⟩
  obtain ⟨h₁, k1, k2, k3⟩ := S'.wide
  refine ⟨h₁, k1, k3 a o e ?_, k2⟩
  rintro (q | ⟨n, q⟩ | q)
  · exact h1 q
  · exact h2 n q
  · exact nd.1 q

/-- a list comprehension of one clause over what an iterator hands out -/
def CompK (prog : Program) (w : World) (A : Around) (s₀ : Shared) (h₀ : Heap) (env : Env) (ρ ρc : Rho) (Λ : List (Addr × Obj)) (scope : Scope) (x : Str) (ifs : List Expr) (elt : Expr) (p : Value → Bool) (F : Value → Value → Prop) (Fin : Addr → Obj → Prop) (it : Value) (s₂ : Shared) : Prop :=
  ∃ I fp wr n P St, it = .ref I ∧ Walks prog w A I fp wr n P St ∧ n ≤ sizeLine ∧ St 0 s₂.heap ∧ (∀ b ∈ fp, b < s₂.heap.objs.size) ∧ CS true s₀ h₀ env ρ Λ s₂ ∧ (∀ a ∈ wr, h₀.get? a = none) ∧ (∀ a ∈ wr, ¬ CS.own env Λ a) ∧
  (∀ C i v s₃ E', P i v → CS false s₃ h₀ (compEnvC scope (closGo env scope.names []) C env) ((x, some v) :: ρc) Λ s₃ →
    wpAny (model prog w) A (forIn ifs true fun c r => if r = true then do let ok ← isTrue c (compEnvC scope (closGo env scope.names []) C env) (eval c (compEnvC scope (closGo env scope.names []) C env)); pure (ForInStep.yield ok) else pure (ForInStep.yield r))
      (fun ok s₄ => ok = p v ∧ Keeps s₃ s₄) E' s₃) ∧
  (∀ C i v s₃ E', P i v → p v = true → CS false s₃ h₀ (compEnvC scope (closGo env scope.names []) C env) ((x, some v) :: ρc) Λ s₃ →
    wpAny (model prog w) A (eval elt (compEnvC scope (closGo env scope.names []) C env)) (fun y s₄ => F v y ∧ Keeps s₃ s₄) E' s₃) ∧
  (∀ D k ys (vs : List Value), vs.length = n → (∀ j v, vs[j]? = some v → P j v) → Paired F (vs.filter p) ys.toList → s₂.heap.get? D = none → Fin D (lst ys k))

theorem QuietOnC.ofCS {scope : Scope} {x : Str} {ifs : List Expr} {elt : Expr} {wr : List Addr} {P : Nat → Value → Prop} {p : Value → Bool} {F : Value → Value → Prop} (S : CS true s₀ h₀ env ρ Λ s₂) (h1 : ∀ a ∈ wr, h₀.get? a = none) (h2 : ∀ a ∈ wr, ¬ CS.own env Λ a)
    (hkind : scope.kind = .function) (hx : scope.names.lookup x = some .local) (hfree : ∀ n, (n, NameKind.free) ∈ scope.names → ∃ c, env.cells.lookup n = some c)
    (hc1 : ∀ y, y ∈ ρc.map (·.1) → scope.names.lookup y = some .free ∧ env.kindOf y = some .cell) (hc2 : ∀ y u, Look y u ρc → Look y u ρ) (hnd : ((x :: ρc.map (·.1))).Nodup)
    (ht : ∀ C i v s₃ E', P i v → CS false s₃ h₀ (compEnvC scope (closGo env scope.names []) C env) ((x, some v) :: ρc) Λ s₃ →
      wpAny (model prog w) A (forIn ifs true fun c r => if r = true then do let ok ← isTrue c (compEnvC scope (closGo env scope.names []) C env) (eval c (compEnvC scope (closGo env scope.names []) C env)); pure (ForInStep.yield ok) else pure (ForInStep.yield r))
        (fun ok s₄ => ok = p v ∧ Keeps s₃ s₄) E' s₃)
    (he : ∀ C i v s₃ E', P i v → p v = true → CS false s₃ h₀ (compEnvC scope (closGo env scope.names []) C env) ((x, some v) :: ρc) Λ s₃ →
      wpAny (model prog w) A (eval elt (compEnvC scope (closGo env scope.names []) C env)) (fun y s₄ => F v y ∧ Keeps s₃ s₄) E' s₃) :
    QuietOnC prog w A env scope (closGo env scope.names []) x ifs elt wr P p F s₂ where
  tests := fun C i v s₃ _ E' hC hP hns hm hk _ => ht C i v s₃ E' hP (compCS S hC hns hm hk h1 h2 hkind hx hfree hc1 hc2 hnd)
  elt := fun C i v s₃ _ E' hC hP hp hns hm hk _ => he C i v s₃ E' hP hp (compCS S hC hns hm hk h1 h2 hkind hx hfree hc1 hc2 hnd)

theorem ListComp_CS {elt iter : Expr} {x : Str} {px : Pos} {ifs : List Expr} {scope : Scope} {pos : Pos} {Q : Value → Shared → Prop} (ρc : Rho) (p : Value → Bool) (F : Value → Value → Prop)
    (hfree : ∀ n, (n, NameKind.free) ∈ scope.names → ∃ c, env.cells.lookup n = some c) (hcell : ∀ y ∈ scope.names, y.2 ≠ .cell) (hkind : scope.kind = .function)
    (hnames : ∀ y ∈ scope.names, y.2 = .local → scope.names.lookup y.1 = some .local) (hx : scope.names.lookup x = some .local)
    (hc1 : ∀ y, y ∈ ρc.map (·.1) → scope.names.lookup y = some .free ∧ env.kindOf y = some .cell) (hc2 : ∀ y u, Look y u ρc → Look y u ρ) (hnd : ((x :: ρc.map (·.1))).Nodup)
    (h : wpAny (model prog w) A (eval iter env) (fun xv s₁ => wpAny (model prog w) A (pyIter xv) (CompK prog w A s₀ h₀ env ρ ρc Λ scope x ifs elt p F (fun D o => ∀ s', CS true s₀ h₀ env ρ ((D, o) :: Λ) s' → Q (.ref D) s')) E s₁) E s)
    (hs : ∀ x, foldedSetIterable iter env x = pure x) :
    wpAny (model prog w) A (eval (.ListComp elt [⟨.Name x px, iter, ifs, 0⟩] scope pos) env) Q E s := by
  refine wpAny_ListComp_free p F (closureFor_go hfree) hcell hkind hnames hx (wpAny_mono h (fun xv s₁ h₁ => wpAny_mono h₁ (fun it s₂ h₂ => ?_) fun _ _ e => e) fun _ _ e => e) hs
  obtain ⟨I, fp, wr, n, P, St, e, W, hsz, hst, hfp, S, h1, h2, ht, he, hQ⟩ := h₂
  refine ⟨I, fp, wr, n, P, St, e, W, hsz, hst, hfp, QuietOnC.ofCS S h1 h2 hkind hx hfree hc1 hc2 hnd ht he, ?_⟩
  intro D h' tk ys vs hD _ hpl hlen hP hF hk
  obtain ⟨k, hpl⟩ := hpl
  exact hQ D k ys vs hlen hP hF hD _ (S.new rfl hk h1 h2 hD hpl)

/-- the same, stored at once (the comprehension's own names are let go behind the store) -/
theorem Assign_ListComp_CS {elt iter : Expr} {x y : Str} {px py : Pos} {ifs : List Expr} {scope : Scope} {pos spos : Pos} {Q : Flow → Shared → Prop} (ρc : Rho) (p : Value → Bool) (F : Value → Value → Prop)
    (hsw : swapsWith (.ListComp elt [⟨.Name x px, iter, ifs, 0⟩] scope pos) (some (.Name y py)) spos.line env = pure true)
    (hfree : ∀ n, (n, NameKind.free) ∈ scope.names → ∃ c, env.cells.lookup n = some c) (hcell : ∀ y ∈ scope.names, y.2 ≠ .cell) (hkind : scope.kind = .function)
    (hnames : ∀ y ∈ scope.names, y.2 = .local → scope.names.lookup y.1 = some .local) (hx : scope.names.lookup x = some .local) (hy : env.kindOf y = some .local) (hek : env.scope.kind = .function)
    (hc1 : ∀ y, y ∈ ρc.map (·.1) → scope.names.lookup y = some .free ∧ env.kindOf y = some .cell) (hc2 : ∀ y u, Look y u ρc → Look y u ρ) (hnd : ((x :: ρc.map (·.1))).Nodup)
    (h : wpAny (model prog w) A (eval iter env) (fun xv s₁ => wpAny (model prog w) A (pyIter xv) (CompK prog w A s₀ h₀ env ρ ρc Λ scope x ifs elt p F
      (fun D o => ∃ ρ', Put y (.ref D) ρ ρ' ∧ ∀ s', CS true s₀ h₀ env ρ' ((D, o) :: Λ) s' → Q .next s')) E s₁) E s)
    (hs : ∀ x, foldedSetIterable iter env x = pure x) :
    wpAny (model prog w) A (exec (.Assign [.Name y py] (.ListComp elt [⟨.Name x px, iter, ifs, 0⟩] scope pos) spos) env) Q E s := by
  refine wpAny_Assign_ListComp_free p F hsw (closureFor_go hfree) hcell hkind hnames hx hy (by rw [hek]; rfl) (wpAny_mono h (fun xv s₁ h₁ => wpAny_mono h₁ (fun it s₂ h₂ => ?_) fun _ _ e => e) fun _ _ e => e) hs
  obtain ⟨I, fp, wr, n, P, St, e, W, hsz, hst, hfp, S, h1, h2, ht, he, hQ⟩ := h₂
  obtain ⟨m, hm, hm'⟩ := S.ns
  refine ⟨I, fp, wr, n, P, St, m, e, W, hsz, hst, hfp, fun q => h2 _ q (.inl rfl), hm, QuietOnC.ofCS S h1 h2 hkind hx hfree hc1 hc2 hnd ht he, ?_⟩
  intro D h' tk ys vs hD _ hpl hlen hP hF hns hk
  obtain ⟨k, hpl⟩ := hpl
  have hDL : D ≠ env.locals := fun q => by obtain ⟨o, _, _, e, _⟩ := hm; rw [q] at hD; rw [hD] at e; cases e
  -- the heap with the frame's names as they were: only for the facts
  have hno : ¬ CS.own env Λ D := fun h => by obtain ⟨o', q⟩ := S.own_at h; rw [hD] at q; cases q
  have hC' : ∀ n c, env.cells.lookup n = some c → c ∉ wr := fun n c e h => h2 _ h (.inr (.inl ⟨n, e⟩))
  have mk : ∀ ρ', Put y (.ref D) ρ ρ' → CS true s₀ h₀ env ρ' ((D, lst ys k) :: Λ) { s₂ with heap := h', toks := tk } := fun ρ' hput => by
    refine ⟨S.kind, ?_, fun a o e => hk a o (fun q => ?_) (fun q => ?_) (S.base a o e), (fun q => nomatch q), ⟨_, hns, fun z u hz hl => ?_⟩, fun z u c hz hl hc => ?_, fun n c e => ?_, S.apart, fun z hz => S.kinds z (hput.names ▸ hz), S.locs, hput.names ▸ S.nd, fun q hq => ?_, ?_⟩
    · obtain ⟨h, t, rfl⟩ := S.same; exact ⟨h', tk, rfl⟩
    · rw [q, S.locs rfl] at e; cases e
    · rw [h1 a q] at e; cases e
    · rcases hput.look S.nd hz with ⟨rfl, rfl⟩ | ⟨q1, q2⟩
      · exact if_pos rfl
      · exact (if_neg q1).trans (hm' z u q2 hl)
    · rcases hput.look S.nd hz with ⟨rfl, rfl⟩ | ⟨q1, q2⟩
      · rw [hy] at hl; cases hl
      · obtain ⟨o, e, r⟩ := S.cell z u c q2 hl hc
        exact ⟨o, hk _ o (S.cells z c hc).2.1 (hC' z c hc) e, r⟩
    · obtain ⟨⟨u, o, e', r'⟩, r⟩ := S.cells n c e
      exact ⟨⟨u, o, hk _ o r.1 (hC' n c e) e', r'⟩, r⟩
    · rcases List.mem_cons.mp hq with rfl | hq
      · exact ⟨hpl, hDL, fun n q => hno (.inr (.inl ⟨n, q⟩)), fun _ => S.base.none hD⟩
      · obtain ⟨a, b, r⟩ := S.led q hq
        exact ⟨hk _ _ b (fun h => h2 _ h (.inr (.inr (List.mem_map_of_mem hq)))) a, b, r⟩
    · rw [List.map_cons, List.nodup_cons]
      exact ⟨fun h => hno (.inr (.inr h)), S.lnd⟩
  obtain ⟨ρ', hput, hq⟩ := hQ D k ys vs hlen hP hF hD
  exact hq _ (mk ρ' hput)
end
end Fl

namespace Fl
open PySem PySem.W PySem.Calls PyProof.Rows

/-- what of the text's own objects, of its names and of the built-in names stands -/
structure Gr (K : Frag) (h : Heap) : Prop where
  X : K.In h
  g : ∃ mg, h.Ns mainGlobals mg
  b : ∃ mb, h.Ns builtinsNs mb ∧ ∀ x : Str, x ≠ "__name__" → mb x = bootBuiltins x
  lim : h.NoLimit
  tr : ∃ p loose mg mb, TopRead p loose mg mb h
theorem Gr.mono {K : Frag} {h h' : Heap} (G : Gr K h) (k : Sub h h') : Gr K h' :=
  ⟨G.X.keeps k, let ⟨m, a⟩ := G.g; ⟨m, a.keeps k⟩, let ⟨m, a, b⟩ := G.b; ⟨m, a.keeps k, b⟩, G.lim.keeps k, let ⟨p, l, m, n, a⟩ := G.tr; ⟨p, l, m, n, a.keeps k⟩⟩
theorem Gr.of {K : Frag} {h : Heap} {p : Program} {loose : List Str} {mean : ExcName → Option Value} {mg mb : Str → Option Value} (X : K.In h) (T : Top p loose mean mg mb h) : Gr K h :=
  ⟨X, ⟨_, T.g⟩, ⟨_, T.b, T.builtins⟩, T.nolimit, ⟨_, _, _, _, topRead_of T⟩⟩

/-- room for n more frames; nothing is being handled -/
structure Room (A : Around) (n : Nat) : Prop where
  depth : A.depth + n < recursionLimit
  units : A.units + 8 * n + 200 < cLine
  handled : A.handled = none
theorem Room.in_ {A : Around} {n k : Nat} {env : Env} (r : Room A n) (h : k + 1 ≤ n) : Room (A.deeper env) k :=
  ⟨by have := r.depth; show A.depth + 1 + k < _; (first | lia | omega), by have := r.units; show A.units + 3 + 8 * k + 200 < _; (first | lia | omega), r.handled⟩
section
variable {prog : Program} {w : World} {A : Around} {E : Value → Shared → Prop} {s s₀ : Shared} {h₀ : Heap} {env : Env} {ρ ρ' : Rho} {Λ : List (Addr × Obj)} {b : Bool} {K : Frag}

-- names
theorem n_var {x : Str} {pos : Pos} {v : Value} {Q : Value → Shared → Prop} (S : CS b s₀ h₀ env ρ Λ s) (hx : Look x v ρ) (hd : (x == ("__debug__" : Str)) = false) (h : Q v s) : wpAny (model prog w) A (eval (.Name x pos) env) Q E s :=
  wpAny_Name (S.look hx h) hd
theorem n_glob {x : Str} {pos : Pos} {v : Value} {Q : Value → Shared → Prop} (S : CS b s₀ h₀ env ρ Λ s) (G : Gr K h₀) (e : nsIn K mainGlobals x = some (some v)) (hx : env.kindOf x = some .globalImplicit) (hg : env.globals = mainGlobals) (hd : (x == ("__debug__" : Str)) = false) (h : Q v s) :
    wpAny (model prog w) A (eval (.Name x pos) env) Q E s := by
  refine Calls.Name_function_global S.kind hx ?_ hd
  unfold loadGlobal
  refine wpAny_bind ?_
  rw [hg]
  refine looks_nsIn G.X e _ _ _ _ S.base ?_
  exact wpAny_pure h
theorem n_built {x : Str} {pos : Pos} {v : Value} {Q : Value → Shared → Prop} (S : CS b s₀ h₀ env ρ Λ s) (G : Gr K h₀) (e : nsIn K mainGlobals x = some none) (hv : bootBuiltins x = some v) (hn : x ≠ "__name__") (hx : env.kindOf x = some .globalImplicit) (hg : env.globals = mainGlobals)
    (hb : env.builtins = builtinsNs) (hd : (x == ("__debug__" : Str)) = false) (h : Q v s) : wpAny (model prog w) A (eval (.Name x pos) env) Q E s := by
  obtain ⟨mg, hm⟩ := G.g
  obtain ⟨mb, hb1, hb2⟩ := G.b
  exact Calls.Name_function_global S.kind hx (Calls.loadGlobal_builtin (by rw [hg]; exact hm.keeps S.base) (mg_none_of G.X hm e) (by rw [hb]; exact hb1.keeps S.base) ((hb2 x hn).trans hv) h) hd

-- constants
theorem c_int {i : Int} {k : Nat} {pos : Pos} {Q : Value → Shared → Prop} (S : CS b s₀ h₀ env ρ Λ s) (h : ∀ t s', CS b s₀ h₀ env ρ Λ s' → Q (.int i t) s') : wpAny (model prog w) A (eval (.Constant (.int i) k pos) env) Q E s := wpAny_Constant_int (h _ _ (S.tok _))
theorem c_str {x : Str} {k : Nat} {pos : Pos} {Q : Value → Shared → Prop} (S : CS b s₀ h₀ env ρ Λ s) (h : ∀ t s', CS b s₀ h₀ env ρ Λ s' → Q (.str x t) s') : wpAny (model prog w) A (eval (.Constant (.str x) k pos) env) Q E s := wpAny_Constant_str (h _ _ (S.tok _))

-- ints
theorem o_add {x y : Int} {t u : Tok} {Q : Value → Shared → Prop} (S : CS b s₀ h₀ env ρ Λ s) (h : ∀ t s', CS b s₀ h₀ env ρ Λ s' → Q (.int (x + y) t) s') : wpAny (model prog w) A (binaryOp .Add (.int x t) (.int y u)) Q E s := PyProof.Rows.add_int (h _ _ (S.tok _))
theorem o_sub {x y : Int} {t u : Tok} {Q : Value → Shared → Prop} (S : CS b s₀ h₀ env ρ Λ s) (h : ∀ t s', CS b s₀ h₀ env ρ Λ s' → Q (.int (x - y) t) s') : wpAny (model prog w) A (binaryOp .Sub (.int x t) (.int y u)) Q E s := PySem.P.sub_int (h _ _ (S.tok _))
theorem o_mul {x y : Int} {t u : Tok} {Q : Value → Shared → Prop} (S : CS b s₀ h₀ env ρ Λ s) (hm : IntMulOk x y) (h : ∀ t s', CS b s₀ h₀ env ρ Λ s' → Q (.int (x * y) t) s') : wpAny (model prog w) A (binaryOp .Mult (.int x t) (.int y u)) Q E s := PyProof.Rows.mul_int (h _ _ (S.tok _)) hm
theorem o_div {x y : Int} {t u : Tok} {Q : Value → Shared → Prop} (S : CS b s₀ h₀ env ρ Λ s) (hy : 0 < y) (hy2 : y < 1073741824) (h : ∀ t s', CS b s₀ h₀ env ρ Λ s' → Q (.int (x / y) t) s') : wpAny (model prog w) A (binaryOp .FloorDiv (.int x t) (.int y u)) Q E s :=
  PyProof.Rows.floordiv_int (by (first | lia | omega)) (by rw [Int.fdiv_eq_ediv_of_nonneg _ (by (first | lia | omega))]; exact h _ _ (S.tok _)) (.inl (PyProof.noPylong_small (by (first | lia | omega))))
theorem o_mod {x y : Int} {t u : Tok} {Q : Value → Shared → Prop} (S : CS b s₀ h₀ env ρ Λ s) (hy : 0 < y) (h : ∀ t s', CS b s₀ h₀ env ρ Λ s' → Q (.int (x % y) t) s') : wpAny (model prog w) A (binaryOp .Mod (.int x t) (.int y u)) Q E s :=
  PyProof.Rows.mod_int (by (first | lia | omega)) (by rw [Int.fmod_eq_emod_of_nonneg _ (by (first | lia | omega))]; exact h _ _ (S.tok _))
theorem o_neg {x : Int} {t : Tok} {Q : Value → Shared → Prop} (S : CS b s₀ h₀ env ρ Λ s) (h : ∀ t s', CS b s₀ h₀ env ρ Λ s' → Q (.int (-x) t) s') : wpAny (model prog w) A (unaryOp .USub (.int x t)) Q E s := PySem.P.neg_int (h _ _ (S.tok _))

-- branches
theorem i_dec {c : Prop} [Decidable c] {P Q : Prop} (ht : c → P) (hf : ¬ c → Q) : if decide c = true then P else Q := by
  by_cases h : c
  · rw [if_pos (decide_eq_true h)]; exact ht h
  · rw [if_neg (by rw [decide_eq_false h]; exact Bool.false_ne_true)]; exact hf h
theorem i_eq {α : Type} [BEq α] [LawfulBEq α] {x y : α} {P Q : Prop} (ht : x = y → P) (hf : x ≠ y → Q) : if (x == y) = true then P else Q := by
  by_cases h : (x == y) = true
  · rw [if_pos h]; exact ht (beq_iff_eq.mp h)
  · rw [if_neg h]; exact hf fun q => h (beq_iff_eq.mpr q)
theorem i_ne {α : Type} [BEq α] [LawfulBEq α] {x y : α} {P Q : Prop} (ht : x ≠ y → P) (hf : x = y → Q) : if (x != y) = true then P else Q := by
  by_cases h : x = y
  · rw [if_neg (by rw [h]; simp)]; exact hf h
  · rw [if_pos (by simpa using h)]; exact ht h
theorem i_not {c : Bool} {P Q : Prop} (h : if c = true then Q else P) : if (!c) = true then P else Q := by cases c <;> exact h
theorem i_tt {P Q : Prop} (h : P) : if true = true then P else Q := h
theorem i_ff {P Q : Prop} (h : Q) : if false = true then P else Q := h
theorem i_bool {c : Bool} {P Q : Prop} (ht : c = true → P) (hf : c = false → Q) : if c = true then P else Q := by
  cases c
  · exact hf rfl
  · exact ht rfl

-- an object of a class of the text: what its fields hold
structure ObjAt (h : Heap) (C x : Addr) (flds : List (Str × Value)) : Prop where
  nd : (flds.map (·.1)).Nodup
  at_ : ∃ ox od, W.InstAt h x ox C (some od) ∧ ∀ n, lookIn n od = some (flds.lookup n)
theorem InstAt.mono {h h' : Heap} {x C : Addr} {ox : Obj} {od : Option Obj} (I : W.InstAt h x ox C od) (k : Sub h h') : W.InstAt h' x ox C od := by
  refine ⟨k _ _ I.at_, I.cls, I.no, ?_⟩
  have := I.dict
  revert this
  cases ox.dict <;> cases od <;> first | exact id | exact fun e => k _ _ e
theorem ObjAt.mono {h h' : Heap} {C x : Addr} {flds : List (Str × Value)} (O : ObjAt h C x flds) (k : Sub h h') : ObjAt h' C x flds := by
  obtain ⟨ox, od, I, l⟩ := O.at_
  exact ⟨O.nd, ox, od, InstAt.mono I k, l⟩

/-- a name that is no attribute of the class: it is read from the object alone -/
def fieldIn (K : Frag) (C : Addr) (name : Str) : Bool :=
  findIn K (.ref C) "__getattribute__" == some (some (.builtin "object.__getattribute__")) && findIn K (.ref C) name == some none && (clsIn K C).any (·.hasDict)
theorem a_field {C x : Addr} {flds : List (Str × Value)} {name : Str} {v : Value} {expr : Bool} {Q : Value → Shared → Prop} (S : CS b s₀ h₀ env ρ Λ s) (X : K.In s.heap) (O : ObjAt s.heap C x flds) (hc : fieldIn K C name = true) (hl : flds.lookup name = some v) (hh : handedIn v = true)
    (h : ∀ s', CS b s₀ h₀ env ρ Λ s' → Q v s') : wpAny (model prog w) A (getAttr (.ref x) name expr) Q E s := by
  obtain ⟨ox, od, I, l⟩ := O.at_
  unfold fieldIn at hc
  simp only [Bool.and_eq_true, beq_iff_eq] at hc
  obtain ⟨⟨h1, h2⟩, h3⟩ := hc
  refine get_value X I h1 ?_ hh (h _ (S.tok _))
  cases hcd : clsIn K C with
  | none => rw [hcd] at h3; cases h3
  | some cd =>
    rw [hcd] at h3
    have h3' : cd.hasDict = true := h3
    unfold findObj
    rw [hcd]
    simp only [Option.bind_some, h2, W.ownOf, h3', if_true, l, hl]
theorem a_fld {C x : Addr} {flds : List (Str × Value)} {name : Str} {v : Value} {expr : Bool} {Q : Value → Shared → Prop} (S : CS b s₀ h₀ env ρ Λ s) (G : Gr K h₀) (O : ObjAt s.heap C x flds) (hc : fieldIn K C name = true) (hl : (name, v) ∈ flds) (hh : handedIn v = true)
    (h : ∀ s', CS b s₀ h₀ env ρ Λ s' → Q v s') : wpAny (model prog w) A (getAttr (.ref x) name expr) Q E s := a_field S (G.mono S.base).X O hc (lookup_of_nodup O.nd hl) hh h
def methIn (K : Frag) (C : Addr) (name : Str) (f : Addr) : Bool :=
  findIn K (.ref C) "__getattribute__" == some (some (.builtin "object.__getattribute__")) && findIn K (.ref C) "__getattr__" == some none && findIn K (.ref C) name == some (some (.ref f)) && typeIn K (.ref f) == some (.type "function") && keepIn K (.ref f)
theorem m_get {C x f : Addr} {flds : List (Str × Value)} {name : Str} {pl : Sem Bool} {Q : Value × List Value → Shared → Prop} (X : K.In s.heap) (O : ObjAt s.heap C x flds) (hc : methIn K C name f = true) (hl : flds.lookup name = none)
    (h : Q (.ref f, [.ref x]) s) : wpAny (model prog w) A (getMethod (.ref x) name pl) Q E s := by
  obtain ⟨ox, od, I, l⟩ := O.at_
  unfold methIn at hc
  simp only [Bool.and_eq_true, beq_iff_eq] at hc
  obtain ⟨⟨⟨⟨h1, h2⟩, h3⟩, h4⟩, h5⟩ := hc
  refine method_fn X I h1 h2 h3 h4 ?_ h
  unfold shadowIn
  simp only [l, hl]; rfl
theorem methIn_keep {C f : Addr} {name : Str} (hc : methIn K C name f = true) : keepIn K (.ref f) = true := by
  unfold methIn at hc
  simp only [Bool.and_eq_true] at hc
  exact hc.2

/-- a def or a class of the text, called by its name -/
structure GF (K : Frag) (x : Str) (f : Addr) : Prop where
  ns : nsIn K mainGlobals x = some (some (.ref f))
  keep : keepIn K (.ref f) = true
  nd : (x == ("__debug__" : Str)) = false
/-- a built-in name that the text leaves alone -/
structure GB (K : Frag) (x : Str) (v : Value) : Prop where
  ns : nsIn K mainGlobals x = some none
  boot : bootBuiltins x = some v
  nn : x ≠ "__name__"
  nd : (x == ("__debug__" : Str)) = false
theorem n_gf {x : Str} {pos : Pos} {f : Addr} {Q : Value → Shared → Prop} (S : CS b s₀ h₀ env ρ Λ s) (G : Gr K h₀) (g : GF K x f) (hx : env.kindOf x = some .globalImplicit) (hg : env.globals = mainGlobals) (h : Q (.ref f) s) :
    wpAny (model prog w) A (eval (.Name x pos) env) Q E s := n_glob S G g.ns hx hg g.nd h
theorem n_gb {x : Str} {pos : Pos} {v : Value} {Q : Value → Shared → Prop} (S : CS b s₀ h₀ env ρ Λ s) (G : Gr K h₀) (g : GB K x v) (hx : env.kindOf x = some .globalImplicit) (hg : env.globals = mainGlobals) (hb : env.builtins = builtinsNs) (h : Q v s) :
    wpAny (model prog w) A (eval (.Name x pos) env) Q E s := n_built S G g.ns g.boot g.nn hx hg hb g.nd h
theorem callN {x : Str} {f : Addr} {np pos : Pos} {e : Expr} {rest : List Expr} {Q : Value → Shared → Prop} (S : CS b s₀ h₀ env ρ Λ s) (G : Gr K h₀) (g : GF K x f) (hx : env.kindOf x = some .globalImplicit) (hg : env.globals = mainGlobals)
    (h : wpAny (model prog w) A (spliced (backTo pos (starEach (e :: rest) env))) (fun vs s₁ => K.In s₁.heap ∧ wpAny (model prog w) A (call (.ref f) vs) Q E s₁) E s)
    (he : starEach (e :: rest) env = (false, eval e env) :: starEach rest env) (hplain : (backTo pos (starEach rest env)).any (·.1) = false) :
    wpAny (model prog w) A (eval (.Call (.Name x np) (e :: rest) [] pos) env) Q E s :=
  PyProof.Rows.Call_ (n_glob S G g.ns hx hg g.nd (callWith_K G.X g.keep h he hplain))
/-- a built-in function, or a built-in class, called by its name -/
theorem callB {x : Str} {id : String} {np pos : Pos} {e : Expr} {rest : List Expr} {Q : Value → Shared → Prop} (S : CS b s₀ h₀ env ρ Λ s) (G : Gr K h₀) (g : GB K x (.builtin id)) (hx : env.kindOf x = some .globalImplicit) (hg : env.globals = mainGlobals) (hb : env.builtins = builtinsNs)
    (h : wpAny (model prog w) A (spliced (backTo pos (starEach (e :: rest) env))) (fun vs s₁ => wpAny (model prog w) A (call (.builtin id) vs) Q E s₁) E s)
    (he : starEach (e :: rest) env = (false, eval e env) :: starEach rest env) (hplain : (backTo pos (starEach rest env)).any (·.1) = false) :
    wpAny (model prog w) A (eval (.Call (.Name x np) (e :: rest) [] pos) env) Q E s := by
  refine PyProof.Rows.Call_ (n_gb S G g hx hg hb ?_)
  have hb' : backTo pos (starEach (e :: rest) env) = (false, eval e env) :: backTo pos (starEach rest env) := by rw [he]; rfl
  rw [hb'] at h ⊢
  exact Calls.callWith_builtin (by rw [List.any_cons]; exact hplain) (Calls.evalArgs_plain h)
theorem callT {x : Str} {T : String} {np pos : Pos} {e : Expr} {rest : List Expr} {Q : Value → Shared → Prop} (S : CS b s₀ h₀ env ρ Λ s) (G : Gr K h₀) (g : GB K x (.type T)) (hx : env.kindOf x = some .globalImplicit) (hg : env.globals = mainGlobals) (hb : env.builtins = builtinsNs)
    (h : wpAny (model prog w) A (spliced (backTo pos (starEach (e :: rest) env))) (fun vs s₁ => wpAny (model prog w) A (call (.type T) vs) Q E s₁) E s)
    (he : starEach (e :: rest) env = (false, eval e env) :: starEach rest env) (hplain : (backTo pos (starEach rest env)).any (·.1) = false) :
    wpAny (model prog w) A (eval (.Call (.Name x np) (e :: rest) [] pos) env) Q E s := by
  refine PyProof.Rows.Call_ (n_gb S G g hx hg hb ?_)
  have hb' : backTo pos (starEach (e :: rest) env) = (false, eval e env) :: backTo pos (starEach rest env) := by rw [he]; rfl
  rw [hb'] at h ⊢
  exact PySem.callWith_type (by rw [List.any_cons]; exact hplain) (Calls.evalArgs_plain h)
/-- a method of a built-in object -/
theorem cw_meth {id : String} {self : Value} {pos : Pos} {e : Expr} {rest : List Expr} {Q : Value → Shared → Prop}
    (h : wpAny (model prog w) A (spliced (backTo pos (starEach (e :: rest) env))) (fun vs s₁ => wpAny (model prog w) A (call (.builtin id) (self :: vs)) Q E s₁) E s)
    (he : starEach (e :: rest) env = (false, eval e env) :: starEach rest env) (hplain : (backTo pos (starEach rest env)).any (·.1) = false) :
    wpAny (model prog w) A (callWith pos (.builtin id) [self] (backTo pos (starEach (e :: rest) env)) []) Q E s := by
  have hb' : backTo pos (starEach (e :: rest) env) = (false, eval e env) :: backTo pos (starEach rest env) := by rw [he]; rfl
  rw [hb'] at h ⊢
  exact Calls.callWith_builtin (by rw [List.any_cons]; exact hplain) (Calls.evalArgs_plain h)
/-- a method of the text's own -/
theorem cw_own {f : Addr} {self : Value} {pos : Pos} {e : Expr} {rest : List Expr} {Q : Value → Shared → Prop} (G : Gr K h₀) (hk : keepIn K (.ref f) = true)
    (h : wpAny (model prog w) A (spliced (backTo pos (starEach (e :: rest) env))) (fun vs s₁ => K.In s₁.heap ∧ wpAny (model prog w) A (call (.ref f) (self :: vs)) Q E s₁) E s)
    (he : starEach (e :: rest) env = (false, eval e env) :: starEach rest env) (hplain : (backTo pos (starEach rest env)).any (·.1) = false) :
    wpAny (model prog w) A (callWith pos (.ref f) [self] (backTo pos (starEach (e :: rest) env)) []) Q E s := callWith_K G.X hk h he hplain
theorem cw_own0 {f : Addr} {self : Value} {pos : Pos} {Q : Value → Shared → Prop} (X : K.In s.heap) (hk : keepIn K (.ref f) = true) (h : wpAny (model prog w) A (call (.ref f) [self]) Q E s) :
    wpAny (model prog w) A (callWith pos (.ref f) [self] (backTo pos (starEach [] env)) []) Q E s := callWith_K0 X hk h
end
end Fl

namespace Fl
open PySem PySem.W PySem.Calls PyProof.Rows

/-- an object of the changed ones is changed -/
inductive Chg (a : Addr) (o o' : Obj) : List (Addr × Obj) → List (Addr × Obj) → Prop
  | head {r} : Chg a o o' ((a, o) :: r) ((a, o') :: r)
  | tail {p r r'} : Chg a o o' r r' → Chg a o o' (p :: r) (p :: r')
theorem Chg.adr {a : Addr} {o o' : Obj} {Λ Λ' : List (Addr × Obj)} (h : Chg a o o' Λ Λ') : Λ'.map (·.1) = Λ.map (·.1) := by
  induction h with
  | head => rfl
  | tail _ ih => simp only [List.map_cons, ih]
theorem Chg.mem {a : Addr} {o o' : Obj} {Λ Λ' : List (Addr × Obj)} (h : Chg a o o' Λ Λ') : (a, o) ∈ Λ := by
  induction h with
  | head => exact List.mem_cons_self ..
  | tail _ ih => exact List.mem_cons_of_mem _ ih
theorem Chg.look {a : Addr} {o o' : Obj} {Λ Λ' : List (Addr × Obj)} (h : Chg a o o' Λ Λ') (nd : (Λ.map (·.1)).Nodup) {p : Addr × Obj} (hp : p ∈ Λ') : p = (a, o') ∨ (p.1 ≠ a ∧ p ∈ Λ) := by
  induction h with
  | head =>
    rw [List.map_cons, List.nodup_cons] at nd
    rcases List.mem_cons.mp hp with rfl | hp
    · exact .inl rfl
    · refine .inr ⟨fun q => nd.1 ?_, List.mem_cons_of_mem _ hp⟩
      have := List.mem_map_of_mem (f := (·.1)) hp
      rw [q] at this; exact this
  | tail hc ih =>
    rw [List.map_cons, List.nodup_cons] at nd
    rcases List.mem_cons.mp hp with rfl | hp
    · refine .inr ⟨fun q => nd.1 ?_, List.mem_cons_self ..⟩
      have := List.mem_map_of_mem (f := (·.1)) hc.mem
      rw [q]; exact this
    · rcases ih nd.2 hp with q | ⟨q1, q2⟩
      · exact .inl q
      · exact .inr ⟨q1, List.mem_cons_of_mem _ q2⟩

namespace CS
variable {b : Bool} {s₀ s s' : Shared} {h₀ h₁ : Heap} {env : Env} {ρ ρ' : Rho} {Λ Λ' : List (Addr × Obj)}
theorem chg (S : CS true s₀ h₀ env ρ Λ s) {a : Addr} {o o' : Obj} {h' : Heap} {tk : Nat} (U : Chg a o o' Λ Λ') (hs : ∀ c x, c ≠ a → s.heap.get? c = some x → h'.get? c = some x) (ho : h'.get? a = some o') : CS true s₀ h₀ env ρ Λ' { s with heap := h', toks := tk } := by
  obtain ⟨e, e1, e2, e3⟩ := S.led (a, o) U.mem
  refine ⟨S.kind, ?_, fun c x q => hs c x (fun w => ?_) (S.base c x q), (fun q => nomatch q), ?_, fun x v c a1 a2 a3 => ?_, fun n c q => ?_, S.apart, S.kinds, S.locs, S.nd, fun p hp => ?_, U.adr ▸ S.lnd⟩
  · obtain ⟨h, t, rfl⟩ := S.same; exact ⟨h', tk, rfl⟩
  · rw [w, e3 rfl] at q; cases q
  · obtain ⟨m, hn, hm⟩ := S.ns; exact ⟨m, hn.at' fun o q => hs _ o e1.symm q, hm⟩
  · obtain ⟨o, q, r⟩ := S.cell x v c a1 a2 a3; exact ⟨o, hs _ o (fun w => e2 x (w ▸ a3)) q, r⟩
  · obtain ⟨⟨v, o, q', r'⟩, r⟩ := S.cells n c q; exact ⟨⟨v, o, hs _ o (fun w => e2 n (w ▸ q)) q', r'⟩, r⟩
  · rcases U.look S.lnd hp with rfl | ⟨q1, q2⟩
    · exact ⟨ho, e1, e2, e3⟩
    · obtain ⟨x, r⟩ := S.led p q2; exact ⟨hs _ _ q1 x, r⟩
theorem atLed (S : CS b s₀ h₀ env ρ Λ s) {a : Addr} {o : Obj} (h : (a, o) ∈ Λ) : s.heap.get? a = some o := (S.led _ h).1
theorem atBase (S : CS b s₀ h₀ env ρ Λ s) {a : Addr} {o : Obj} (h : h₀.get? a = some o) : s.heap.get? a = some o := S.base _ _ h
theorem gr {K : Frag} (S : CS b s₀ h₀ env ρ Λ s) (G : Gr K h₀) : Gr K s.heap := G.mono S.base
theorem pushK (S : CS b s₀ h₀ env ρ Λ s) (o : Obj) (tk : Nat) : CS b s₀ h₀ env ρ Λ { s with heap := s.heap.push o, toks := tk } :=
  S.keeps ⟨_, tk, rfl, fun _ _ e => Heap.get?_push_of_some _ e⟩
/-- a changed object that is no longer of interest -/
theorem forget (S : CS true s₀ h₀ env ρ Λ s) (h : ∀ p ∈ Λ', p ∈ Λ) (nd : (Λ'.map (·.1)).Nodup) : CS true s₀ h₀ env ρ Λ' s :=
  ⟨S.kind, S.same, S.base, S.all, S.ns, S.cell, S.cells, S.apart, S.kinds, S.locs, S.nd, fun p hp => S.led p (h p hp), nd⟩
theorem tl (S : CS true s₀ h₀ env ρ Λ s) {p : Addr × Obj} (h : p :: Λ' = Λ) : CS true s₀ h₀ env ρ Λ' s := by
  subst h
  have := S.lnd
  rw [List.map_cons, List.nodup_cons] at this
  exact S.forget (fun p hp => List.mem_cons_of_mem _ hp) this.2
end CS

section
variable {prog : Program} {w : World} {A : Around} {E : Value → Shared → Prop} {s s₀ : Shared} {h₀ : Heap} {env : Env} {ρ ρ' : Rho} {Λ Λ' : List (Addr × Obj)} {b : Bool} {K : Frag}

/-- an iterator just made: it hands out n values, the i-th as P says -/
def It (prog : Program) (w : World) (A : Around) (s₀ : Shared) (h₀ : Heap) (env : Env) (ρ : Rho) (Λ : List (Addr × Obj)) (n : Nat) (P : Nat → Value → Prop) (it : Value) (s : Shared) : Prop :=
  ∃ I fp wr St, it = .ref I ∧ Walks prog w A I fp wr n P St ∧ St 0 s.heap ∧ (∀ a ∈ fp, a < s.heap.objs.size) ∧ (∀ a ∈ wr, h₀.get? a = none) ∧ (∀ a ∈ fp, ¬ CS.own env Λ a) ∧ CS true s₀ h₀ env ρ Λ s

theorem it_list {l : Addr} {ys : Array Value} {o : Obj} {Q : Value → Shared → Prop} (S : CS true s₀ h₀ env ρ Λ s) (hh : A.handled = none) (ho : h₀.get? l = some o) (hl : o.cls = .type "list") (hd : ∃ n, o.data = .seq ys n)
    (h : ∀ it s', It prog w A s₀ h₀ env ρ Λ ys.size (fun i v => ys[i]? = some v) it s' → Q it s') : wpAny (model prog w) A (pyIter (.ref l)) Q E s := by
  have hL : s.heap.IsList l ys := ⟨o, S.atBase ho, hl, hd⟩
  have hlt : l < s.heap.objs.size := Heap.lt_size (S.atBase ho)
  refine wpAny_pyIter_list hL (h _ _ ⟨s.heap.objs.size, _, _, _, rfl, Walks.list hh _ l (Nat.ne_of_lt hlt) ys, ⟨⟨_, Heap.get?_push_size _ rfl, rfl, rfl⟩, hL.at fun o e => Heap.get?_push_of_some _ e⟩, ?_, ?_, ?_, S.pushK _ _⟩)
  · intro a ha
    rw [Heap.size_push]
    rcases List.mem_cons.mp ha with rfl | ha
    · exact Nat.lt_succ_self _
    · rw [List.mem_singleton.mp ha]; exact Nat.lt_succ_of_lt hlt
  · intro a ha
    rw [List.mem_singleton.mp ha]
    exact S.base.none (fresh_none (Nat.le_refl _))
  · intro a ha ho'
    rcases List.mem_cons.mp ha with rfl | ha
    · obtain ⟨o', q⟩ := S.own_at ho'
      exact absurd (Heap.lt_size q) (Nat.lt_irrefl _)
    · rw [List.mem_singleton.mp ha] at ho'
      rw [S.own_no ho'] at ho; cases ho

theorem it_str {x : Str} {t : Tok} {Q : Value → Shared → Prop} (S : CS true s₀ h₀ env ρ Λ s) (hh : A.handled = none)
    (h : ∀ it s', It prog w A s₀ h₀ env ρ Λ x.cps.size (SignAt x) it s' → Q it s') : wpAny (model prog w) A (pyIter (.str x t)) Q E s := by
  refine wpAny_pyIter_str fun o St W hst => h _ _ ⟨s.heap.objs.size, _, _, _, rfl, W A hh, hst, ?_, ?_, ?_, S.pushK _ _⟩
  · intro a ha
    rw [List.mem_singleton.mp ha, Heap.size_push]; exact Nat.lt_succ_self _
  · intro a ha
    rw [List.mem_singleton.mp ha]
    exact S.base.none (fresh_none (Nat.le_refl _))
  · intro a ha ho'
    rw [List.mem_singleton.mp ha] at ho'
    obtain ⟨o', q⟩ := S.own_at ho'
    exact absurd (Heap.lt_size q) (Nat.lt_irrefl _)

theorem range_size {n : Int} : Builtin.Range.rangeSize 0 n 1 = n.toNat := by
  unfold Builtin.Range.rangeSize
  simp only [show (1 : Int) > 0 from by decide, if_true]
  split
  · rw [show n - 0 - 1 = n - 1 by (first | lia | omega), Int.ediv_one]; (first | lia | omega)
  · (first | lia | omega)
theorem r_range {n : Int} {t : Tok} {Q : Value → Shared → Prop} (S : CS b s₀ h₀ env ρ Λ s) (h : ∀ r t₁ u₁ v₁ s', IsRange s'.heap r 0 n 1 t₁ u₁ v₁ → CS b s₀ h₀ env ρ Λ s' → Q (.ref r) s') : wpAny (model prog w) A (call (.type "range") [.int n t]) Q E s :=
  PySem.call_range_1 (h _ _ _ _ _ (Heap.get?_push_size _ rfl) (S.pushK _ _))
theorem it_range {r : Addr} {n : Int} {t u v : Tok} {Q : Value → Shared → Prop} (S : CS true s₀ h₀ env ρ Λ s) (hh : A.handled = none) (hr : IsRange s.heap r 0 n 1 t u v) (hn : n < 2 ^ 62) (hn' : -(2 ^ 62) ≤ n)
    (h : ∀ it s', It prog w A s₀ h₀ env ρ Λ n.toNat (fun i v => ∃ t, v = .int (i : Int) t) it s' → Q it s') : wpAny (model prog w) A (pyIter (.ref r)) Q E s := by
  have hsm : Builtin.Range.small 0 n 1 = true := small_one (by decide) (by decide) hn' hn
  refine wpAny_pyIter_range hr hsm (h _ _ ⟨s.heap.objs.size, [s.heap.objs.size], [s.heap.objs.size], (fun i h => IsRangeIter h s.heap.objs.size (0 + (i : Nat) * 1) ((n.toNat : Int) - (i : Nat)) 1), rfl, ?W, ?st, ?_, ?_, ?_, S.pushK _ _⟩)
  case W =>
    have := Walks.range (prog := prog) (w := w) hh s.heap.objs.size 0 1 n.toNat
    exact ⟨this.sub, this.frame, fun i s Q E hi st hQ => this.item i s Q E hi st fun v h' tk hP => hQ v h' tk (by obtain ⟨t, e⟩ := hP; exact ⟨t, by rw [e]; congr 1; (first | lia | omega)⟩), this.done, this.self⟩
  case st =>
    show IsRangeIter _ _ _ _ _
    have e := range_size (n := n)
    rw [e]
    have : (0 : Int) + ((0 : Nat) : Int) * 1 = 0 := by (first | lia | omega)
    rw [this]
    have : ((n.toNat : Nat) : Int) - ((0 : Nat) : Int) = ((n.toNat : Nat) : Int) := by (first | lia | omega)
    rw [this]
    exact Heap.get?_push_size _ rfl
  · intro a ha
    rw [List.mem_singleton.mp ha, Heap.size_push]; exact Nat.lt_succ_self _
  · intro a ha
    rw [List.mem_singleton.mp ha]
    exact S.base.none (fresh_none (Nat.le_refl _))
  · intro a ha ho'
    rw [List.mem_singleton.mp ha] at ho'
    obtain ⟨o', q⟩ := S.own_at ho'
    exact absurd (Heap.lt_size q) (Nat.lt_irrefl _)
end
end Fl

namespace Fl
open PySem PySem.W PySem.Calls PyProof.Rows

abbrev envF (qual : Str) (scope : Scope) (L f : Addr) (cdv : Value) : Env :=
  { scope := scope, locals := L, globals := mainGlobals, cells := cellsFrom (L + 1) scope.names [], qual := qual ++ ".<locals>.", func := some f, code := cdv, frame := some L, builtins := builtinsNs }

def bindsOk (scope : Scope) (binds : List (Str × Value)) : Bool := binds.all fun y => scope.names.lookup y.1 == some .local || scope.names.lookup y.1 == some .cell
def nodupS : List Str → Bool
  | [] => true
  | x :: r => !r.contains x && nodupS r
theorem nodupS_nodup : ∀ {l : List Str}, nodupS l = true → l.Nodup
  | [], _ => List.nodup_nil
  | x :: r, h => by
    simp only [nodupS, Bool.and_eq_true, Bool.not_eq_true', List.contains_eq_mem, decide_eq_false_iff_not] at h
    exact List.nodup_cons.mpr ⟨h.1, nodupS_nodup h.2⟩
/-- what is asked of a def to be entered, all of it by evaluation -/
def defOk (scope : Scope) : Bool := nodupS (scope.names.map (·.1)) && !scope.isCoroutine && !scope.isGenerator && (match scope.kind with | .function => true | _ => false)

/-- behind a body: what it hands back -/
def RetQ (Q : Value → Shared → Prop) (f : Flow) (s' : Shared) : Prop := Q (match f with | .ret v => v | _ => .none) s'
/-- an exception that leaves a frame -/
def OutE (M : Model) (A : Around) (env : Env) (E : Value → Shared → Prop) (e : Value) (s' : Shared) : Prop := wpAny M (A.deeper env) (leaving env e) (fun _ s'' => E e s'') (fun e' s'' => E e' s'') s'
/-- behind a statement: the rest, where it goes on -/
def SeqQ (M : Model) (A : Around) (env : Env) (E : Value → Shared → Prop) (rest : List Stmt) (Q : Flow → Shared → Prop) (f : Flow) (s' : Shared) : Prop := match f with | .next => wpAny M A (execs rest env) Q E s' | f => Q f s'
/-- an exception within a loop -/
def NoteE (M : Model) (A : Around) (env : Env) (E : Value → Shared → Prop) : Value → Shared → Prop := notedBy M A env fun e s' => cameBackBy M A env E e s'

theorem ret_ret {Q : Value → Shared → Prop} {v : Value} {s : Shared} (h : Q v s) : RetQ Q (.ret v) s := h
theorem ret_next {Q : Value → Shared → Prop} {s : Shared} (h : Q .none s) : RetQ Q .next s := h
theorem seq_ret {M : Model} {A : Around} {env : Env} {E : Value → Shared → Prop} {rest : List Stmt} {Q : Flow → Shared → Prop} {v : Value} {s : Shared} (h : Q (.ret v) s) : SeqQ M A env E rest Q (.ret v) s := h
theorem seq_next {M : Model} {A : Around} {env : Env} {E : Value → Shared → Prop} {rest : List Stmt} {Q : Flow → Shared → Prop} {s : Shared} (h : wpAny M A (execs rest env) Q E s) : SeqQ M A env E rest Q .next s := h
section
variable {M : Model} {A : Around} {env : Env} {E : Value → Shared → Prop} {Q : Flow → Shared → Prop} {rest : List Stmt} {s : Shared}
theorem x_nil (h : Q .next s) : wpAny M A (execs [] env) Q E s := wpAny_execs_nil h
theorem x_ret {e : Expr} {pos : Pos} (h : wpAny M A (eval e env) (fun v s' => Q (.ret v) s') E s) : wpAny M A (execs (.Return (some e) pos :: rest) env) Q E s := wpAny_execs_cons (wpAny_Return_some h)
theorem x_assign {x : Str} {pos' pos : Pos} {value : Expr} (h : wpAny M A (eval value env) (fun v s₁ => wpAny M A (storeName env x v) (fun _ s₂ => wpAny M A (execs rest env) Q E s₂) E s₁) E s)
    (hs : swapsWith value (some (.Name x pos')) pos.line env = pure false) : wpAny M A (execs (.Assign [.Name x pos'] value pos :: rest) env) Q E s := wpAny_execs_cons (wpAny_Assign_Name h hs)
theorem x_if {test : Expr} {body orelse : List Stmt} {pos : Pos} (h : wpAny M A (isTrue test env (eval test env)) (fun b s₂ => if b = true then wpAny M A (execs body env) (SeqQ M A env E rest Q) E s₂ else wpAny M A (execs orelse env) (SeqQ M A env E rest Q) E s₂) E s) :
    wpAny M A (execs (.If test body orelse pos :: rest) env) Q E s := wpAny_execs_cons (wpAny_If h)
/-- a statement by what holds behind it, where it always goes on -/
theorem x_cut {st : Stmt} (P : Shared → Prop) (h1 : wpAny M A (exec st env) (fun f s' => f = .next ∧ P s') E s) (h2 : ∀ s', P s' → wpAny M A (execs rest env) Q E s') : wpAny M A (execs (st :: rest) env) Q E s := by
  refine wpAny_execs_cons (wpAny_mono h1 (fun f s' h => ?_) fun _ _ e => e)
  obtain ⟨rfl, p⟩ := h
  exact h2 s' p
theorem x_one {st : Stmt} {Q' : Flow → Shared → Prop} (h : wpAny M A (execs [st] env) Q' E s) : wpAny M A (exec st env) Q' E s := by
  have := h
  rw [show execs [st] env = (exec st env >>= fun f => match f with | .next => execs [] env | f => pure f) from rfl] at this
  have e : (exec st env >>= fun f => match f with | .next => execs [] env | f => pure f) = exec st env >>= pure := by
    congr 1; funext f; cases f <;> rfl
  rw [e, bind_pure] at this
  exact this
end

section
variable {prog : Program} {w : World} {A : Around} {s s₀ : Shared} {h₀ : Heap} {env : Env} {ρ : Rho} {Λ : List (Addr × Obj)} {E : Value → Shared → Prop} {Q : Flow → Shared → Prop}
/-- a for loop over a fresh iterator -/
theorem loop_it {body : List Stmt} {x : Str} {px : Pos} {n : Nat} {P : Nat → Value → Prop} {it : Value} (J : Nat → Rho → List (Addr × Obj) → Prop) (I : It prog w A s₀ h₀ env ρ Λ n P it s) (hJ : J 0 ρ Λ)
    (hadr : ∀ i ρ' Λ', J i ρ' Λ' → Λ'.map (·.1) = Λ.map (·.1))
    (turn : ∀ i v ρ₁ Λ₁, i < n → P i v → J i ρ₁ Λ₁ → ∃ ρ₂, Put x v ρ₁ ρ₂ ∧ ∀ h₁ s₁, Sub h₀ h₁ → CS true s₀ h₁ env ρ₂ Λ₁ s₁ → ∀ Q' : Flow → Shared → Prop,
      (∀ h' ρ' Λ' s₂, Sub h₁ h' → CS true s₀ h' env ρ' Λ' s₂ → J (i + 1) ρ' Λ' → Q' .next s₂) → (∀ v s₂, Q (.ret v) s₂ → Q' (.ret v) s₂) → wpAny (model prog w) A (execs body env) Q' (NoteE (model prog w) A env E) s₁)
    (done : ∀ ρ' Λ' s', J n ρ' Λ' → CS true s₀ h₀ env ρ' Λ' s' → Q .next s') :
    codeAny (model prog w) A (.forLoop (.Name x px) it body [] env) (fun r s' => match r with | .ok f => Q f s' | .error e => cameBackBy (model prog w) A env E e s') s := by
  obtain ⟨I, fp, wr, St, rfl, W, hst, _, hwr, hfp, S⟩ := I
  refine loop_inv J W S hst hfp hwr hJ hadr (fun i v ρ₁ Λ₁ a b c => ?_) done
  obtain ⟨ρ₂, p, q⟩ := turn i v ρ₁ Λ₁ a b c
  exact ⟨ρ₂, p, fun h₁ s₁ k S => q h₁ s₁ k S _ (fun h' ρ' Λ' s₂ a b c => ⟨h', ρ', Λ', a, b, c⟩) fun v s₂ z => z⟩
theorem x_for {target iter : Expr} {body rest : List Stmt} {pos : Pos} (hs : ∀ x, foldedSetIterable iter env x = pure x)
    (h : wpAny (model prog w) A (eval iter env) (fun x s₁ => wpAny (model prog w) A (pyIter x) (fun it s₂ =>
      codeAny (model prog w) A (.forLoop target it body [] env) (fun r s' => match r with | .ok f => SeqQ (model prog w) A env E rest Q f s' | .error e => cameBackBy (model prog w) A env E e s') s₂) E s₁) E s) :
    wpAny (model prog w) A (execs (.For target iter body [] pos :: rest) env) Q E s := wpAny_execs_cons (wpAny_For h hs)
end

section
variable {prog : Program} {w : World} {A : Around} {E : Value → Shared → Prop} {s : Shared} {h₀ : Heap} {Λ : List (Addr × Obj)} {K : Frag}
/-- a def of the text is called -/
theorem callK {Q : Value → Shared → Prop} {f : Addr} {name qual : Str} {params : Arguments} {body : List Stmt} {scope : Scope} {dV kV doc pm cdv ct oc : Value} {an od : Option Addr} {osl : Array (Option Value)} {vals : List Value} {binds : List (Str × Value)} (ρ : Rho)
    (G : Gr K s.heap) (hroom : A.depth < recursionLimit)
    (ho : K.lookup f = some ⟨oc, od, .func (fnOf name qual params body scope dV kV doc pm an cdv ct), osl⟩) (hcd : codeIn K cdv qual = true)
    (hbind : bindArgs (fnOf name qual params body scope dV kV doc pm an cdv ct) ⟨vals, []⟩ = pure binds) (hd : defOk scope = true) (hb1 : bindsOk scope binds = true) (hb2 : nodupS (binds.map (·.1)) = true) (hρ : rho0 scope.names binds = ρ)
    (hb : Sub h₀ s.heap) (hΛ : ∀ p ∈ Λ, s.heap.get? p.1 = some p.2 ∧ h₀.get? p.1 = none) (hΛn : (Λ.map (·.1)).Nodup)
    (h : ∀ L s₁, CS true s h₀ (envF qual scope L f cdv) ρ Λ s₁ →
      wpAny (model prog w) (A.deeper (envF qual scope L f cdv)) (execs body (envF qual scope L f cdv)) (RetQ Q) (OutE (model prog w) A (envF qual scope L f cdv) E) s₁) :
    wpAny (model prog w) A (call (.ref f) vals) Q E s := by
  unfold defOk at hd
  simp only [Bool.and_eq_true, Bool.not_eq_true'] at hd
  obtain ⟨⟨⟨h1, h2⟩, h3⟩, h4⟩ := hd
  have h4' : scope.kind = .function := by
    cases hk : scope.kind <;> first | rfl | (rw [hk] at h4; cases h4)
  exact wpAny_call (call_def (fd := fnOf name qual params body scope dV kV doc pm an cdv ct) hroom (G.X _ _ ho) rfl G.lim (codeRec_of G.X hcd) rfl hbind rfl hb1 (nodupS_nodup hb2) (nodupS_nodup h1) hρ hb hΛ hΛn (h _) h2 h3 h4')

/-- a def that changes nothing of what stood -/
theorem callP {Q : Value → Shared → Prop} {f : Addr} {name qual : Str} {params : Arguments} {body : List Stmt} {scope : Scope} {dV kV doc pm cdv ct oc : Value} {an od : Option Addr} {osl : Array (Option Value)} {vals : List Value} {binds : List (Str × Value)} (ρ : Rho)
    (G : Gr K s.heap) (hroom : A.depth < recursionLimit)
    (ho : K.lookup f = some ⟨oc, od, .func (fnOf name qual params body scope dV kV doc pm an cdv ct), osl⟩) (hcd : codeIn K cdv qual = true)
    (hbind : bindArgs (fnOf name qual params body scope dV kV doc pm an cdv ct) ⟨vals, []⟩ = pure binds) (hd : defOk scope = true) (hb1 : bindsOk scope binds = true) (hb2 : nodupS (binds.map (·.1)) = true) (hρ : rho0 scope.names binds = ρ)
    (h : ∀ L s₁, CS true s s.heap (envF qual scope L f cdv) ρ [] s₁ →
      wpAny (model prog w) (A.deeper (envF qual scope L f cdv)) (execs body (envF qual scope L f cdv)) (RetQ Q) (OutE (model prog w) A (envF qual scope L f cdv) E) s₁) :
    wpAny (model prog w) A (call (.ref f) vals) Q E s :=
  callK (Λ := []) ρ G hroom ho hcd hbind hd hb1 hb2 hρ (Sub.refl _) (fun _ h => nomatch h) List.nodup_nil h

-- lists and texts read
variable {b : Bool} {s₀ : Shared} {env : Env} {ρ : Rho}
theorem b_len_list {l : Addr} {ys : Array Value} {Q : Value → Shared → Prop} (S : CS b s₀ h₀ env ρ Λ s) (hl : s.heap.IsList l ys) (hn : ys.size ≤ 16777216) (h : ∀ t s', CS b s₀ h₀ env ρ Λ s' → Q (.int ys.size t) s') : wpAny (model prog w) A (call (.builtin "len") [.ref l]) Q E s :=
  Calls.call_len_list hl (by (first | lia | omega)) (h _ _ (S.tok _))
theorem b_len_str {x : Str} {t : Tok} {Q : Value → Shared → Prop} (S : CS b s₀ h₀ env ρ Λ s) (hn : x.length ≤ 16777216) (h : ∀ t s', CS b s₀ h₀ env ρ Λ s' → Q (.int x.length t) s') : wpAny (model prog w) A (call (.builtin "len") [.str x t]) Q E s :=
  PySem.P.len_str (by (first | lia | omega)) (h _ _ (S.tok _))
theorem s_list {value slice : Expr} {l : Addr} {ys : Array Value} {k : Int} {u : Tok} {v : Value} {Q : Value → Shared → Prop} (hl : s.heap.IsList l ys) (h0 : 0 ≤ k) (hf : k < 2 ^ 63) (hv : ys[k.toNat]? = some v)
    (hs : subscripted slice false (.ref l) (.int k u) = operate [.ref l, .int k u] (getItem (.ref l) (.int k u))) (h : Q v s) : wpAny (model prog w) A (subscriptTail value slice (.ref l) (.int k u)) Q E s :=
  tail_any hl.typeIs slot_list_getitem.lookup (wpAny_getItem_list hl h0 hf hv h) hs
end
end Fl

namespace Fl
open PySem PySem.W PySem.Calls PyProof.Rows

/-- a dict by names, of k entries at most -/
def NsO (o : Obj) (m : Str → Option Value) (k : Nat) : Prop := ∃ es ep, o = ⟨.type "dict", none, .dict es ep, #[]⟩ ∧ StrKeys es ∧ (∀ n, nsFind es n = m n) ∧ es.size ≤ k
theorem NsO.nil : NsO (dictOf [] 0) (fun _ => none) 0 := ⟨#[], 0, rfl, fun e h => by simp at h, fun n => rfl, Nat.le_refl _⟩
theorem NsO.put {o : Obj} {m : Str → Option Value} {k : Nat} (h : NsO o m k) (name : Str) (hash : Int) (t : Tok) (v : Value) : NsO (o.putName name hash (.str name t) v) (fun y => if y = name then some v else m y) (k + 1) := by
  obtain ⟨es, ep, rfl, hk, hm, hz⟩ := h
  cases hi : es.findIdx? (fun e => e.key.isStr name) with
  | some i =>
    refine ⟨es.modify i fun e => { e with val := v }, ep, by simp only [Obj.putName_eq, Obj.putNameByArray, hi], hk.modify _ _, fun x => ?_, by simpa using Nat.le_succ_of_le hz⟩
    show _ = if x = name then some v else m x
    rw [← hm x]
    exact findBy_modify (fun n v => v.isStr n) Value.isStr_inj es name x v i hi
  | none =>
    refine ⟨es.push ⟨hash, .str name t, v⟩, ep + 1, by simp only [Obj.putName_eq, Obj.putNameByArray, hi], hk.push _ _ _ _, fun x => ?_, by simpa using hz⟩
    show _ = if x = name then some v else m x
    rw [← hm x]
    exact findBy_push (fun n v => v.isStr n) es name x hash (.str name t) v (fun y => by
      show (name == y) = decide (y = name)
      by_cases h : y = name
      · subst h; simp
      · have : ¬ name = y := fun e => h e.symm
        simp [h, this]) hi
theorem NsO.look {o : Obj} {m : Str → Option Value} {k : Nat} (h : NsO o m k) (n : Str) : lookIn n o = some (m n) := by
  obtain ⟨es, ep, rfl, hk, hm, _⟩ := h
  rw [← hm n]
  unfold lookIn nsFind findBy
  dsimp only
  rw [← Array.find?_toList]
  cases hf : es.toList.find? (fun x => x.key.isStr n) with
  | some e => rfl
  | none =>
    have : es.toList.any (·.refKey) = false := by
      rw [List.any_eq_false]
      intro e he
      obtain ⟨x, t, q⟩ := hk e (by simpa using he)
      simp [DictEntry.refKey, q]
    simp [this]

/-- as Chg, for any new object -/
inductive ChgF (a : Addr) (o : Obj) : List (Addr × Obj) → (Obj → List (Addr × Obj)) → Prop
  | head {r} : ChgF a o ((a, o) :: r) (fun o' => (a, o') :: r)
  | tail {p r g} : ChgF a o r g → ChgF a o (p :: r) (fun o' => p :: g o')
theorem ChgF.to {a : Addr} {o : Obj} {Λ : List (Addr × Obj)} {g : Obj → List (Addr × Obj)} (h : ChgF a o Λ g) (o' : Obj) : Chg a o o' Λ (g o') := by
  induction h with
  | head => exact .head
  | tail _ ih => exact .tail ih

/-- a field that is stored into the own dict -/
def storeIn (K : Frag) (C : Addr) (name : Str) : Bool :=
  findIn K (.ref C) "__setattr__" == some (some (.builtin "object.__setattr__")) && plainOver K C && takerIn K C name == some none && (clsIn K C).any (·.hasDict)

section
variable {prog : Program} {w : World} {A : Around} {E : Value → Shared → Prop} {s s₀ : Shared} {h₀ : Heap} {env : Env} {ρ ρ' : Rho} {Λ Λ' : List (Addr × Obj)} {b : Bool} {K : Frag}

theorem a_store {C x dx : Addr} {name : Str} {v : Value} {od : Obj} {m : Str → Option Value} {k : Nat} {g : Obj → List (Addr × Obj)} {Q : Unit → Shared → Prop} (S : CS true s₀ h₀ env ρ Λ s) (X : K.In s.heap) (hx : s.heap.get? x = some (instObj C dx)) (hc : storeIn K C name = true)
    (U : ChgF dx od Λ g) (hn : NsO od m k) (hk : k < 1000)
    (h : ∀ o' s', NsO o' (fun y => if y = name then some v else m y) (k + 1) → CS true s₀ h₀ env ρ (g o') s' → Q () s') : wpAny (model prog w) A (setAttr (.ref x) name v) Q E s := by
  unfold storeIn at hc
  simp only [Bool.and_eq_true, beq_iff_eq] at hc
  obtain ⟨⟨⟨h1, h2⟩, h3⟩, h4⟩ := hc
  have D := S.atLed (U.to od).mem
  have I : W.InstAt s.heap x (instObj C dx) C (some od) := ⟨hx, rfl, rfl, D⟩
  refine set_plain X I h1 ?_
  have S' := S.tok (s.toks + 1)
  refine osa_open (s := { s with toks := s.toks + 1 }) X I h2 h3 fun b => ?_
  obtain ⟨cd, hcd, hd'⟩ := any_some h4
  refine wpAny_bind (wpAny_pure (wpAny_bind (wpAny_bind (wpAny_loadPart hx (wpAny_bind (Looks.here (s := { s with toks := s.toks + 1 }) (looks_clsIn X hcd) ?_))))))
  rw [hd']
  refine wpAny_pure (a := some dx) (wpAny_bind (wpAny_pure (wpAny_bind ?_)))
  unfold nsSet
  refine wpAny_bind (wpAny_bind (wpAny_askSetting (wpAny_pure (wpAny_bind (wpAny_mkText (wpAny_bind (wpAny_loadPart D ?_)))))))
  have hn' := hn.put name (PyData.keyHash w.params name) (s.toks + 1) v
  obtain ⟨es, ep, rfl, hkk, hm, hz⟩ := hn
  dsimp only
  have hany : es.any (·.refKey) = false := by
    rw [Array.any_eq_false']; intro e he; obtain ⟨n, t, h⟩ := hkk e he; simp [DictEntry.refKey, h]
  rw [aRefKeyMayBeTheName_at, hany, Bool.and_false]
  refine wpAny_updatePart D ?_
  have hself : (s.heap.update dx (Obj.putName name (PyData.keyHash w.params name) (.str name (s.toks + 1)) v)).get? dx = some _ := Heap.get?_update_self _ D (by obtain ⟨es', ep', e, _⟩ := hn'; rw [e]; rfl)
  refine wpAny_bind (wpAny_lookBehind hself ?_ ?_)
  · obtain ⟨es', ep', e, _, _, hz'⟩ := hn'
    rw [e]
    exact pastItsLine_dict (by rw [sizeLine_eq]; (first | lia | omega))
  · refine wpAny_pure (h _ _ hn' ?_)
    exact S'.chg (U.to _) (fun c x hc e => (Heap.get?_update_ne _ _ _ _ hc).trans e) hself
end
end Fl

namespace Fl
open PySem PySem.W PySem.Calls PyProof.Rows

/-- a list of ints, a list of texts -/
def IntL (h : Heap) (l : Addr) (ns : List Int) : Prop := ∃ vs, h.IsList l vs.toArray ∧ IntsAre vs ns
def StrL (h : Heap) (l : Addr) (xs : List Str) : Prop := ∃ vs, h.IsList l vs.toArray ∧ StrsAre vs xs
theorem isList_mono {h h' : Heap} {l : Addr} {ys : Array Value} (x : h.IsList l ys) (k : Sub h h') : h'.IsList l ys := x.at fun o e => k _ o e
theorem IntL.mono {h h' : Heap} {l : Addr} {ns : List Int} (x : IntL h l ns) (k : Sub h h') : IntL h' l ns := let ⟨vs, a, b⟩ := x; ⟨vs, isList_mono a k, b⟩
theorem StrL.mono {h h' : Heap} {l : Addr} {ns : List Str} (x : StrL h l ns) (k : Sub h h') : StrL h' l ns := let ⟨vs, a, b⟩ := x; ⟨vs, isList_mono a k, b⟩
theorem IntL.of {h : Heap} {l : Addr} {ys : Array Value} {k : Nat} {ns : List Int} (e : h.get? l = some (lst ys k)) (hi : IntsAre ys.toList ns) : IntL h l ns := ⟨ys.toList, ⟨_, e, rfl, k, by simp⟩, hi⟩
theorem StrL.of {h : Heap} {l : Addr} {ys : Array Value} {k : Nat} {ns : List Str} (e : h.get? l = some (lst ys k)) (hi : StrsAre ys.toList ns) : StrL h l ns := ⟨ys.toList, ⟨_, e, rfl, k, by simp⟩, hi⟩

section
variable {prog : Program} {w : World} {A : Around} {E : Value → Shared → Prop} {s s₀ : Shared} {h₀ : Heap} {env : Env} {ρ ρ' : Rho} {Λ Λ' : List (Addr × Obj)} {b : Bool} {K : Frag}

theorem l_len {l : Addr} {ns : List Int} {Q : Value → Shared → Prop} (S : CS b s₀ h₀ env ρ Λ s) (hl : IntL s.heap l ns) (hn : ns.length ≤ 16777216) (h : ∀ t s', CS b s₀ h₀ env ρ Λ s' → Q (.int ns.length t) s') : wpAny (model prog w) A (call (.builtin "len") [.ref l]) Q E s := by
  obtain ⟨vs, a, hi⟩ := hl
  have := hi.length
  refine b_len_list S a (by simpa [this] using hn) fun t s' S' => ?_
  simpa [this] using h t s' S'
theorem l_lenS {l : Addr} {ns : List Str} {Q : Value → Shared → Prop} (S : CS b s₀ h₀ env ρ Λ s) (hl : StrL s.heap l ns) (hn : ns.length ≤ 16777216) (h : ∀ t s', CS b s₀ h₀ env ρ Λ s' → Q (.int ns.length t) s') : wpAny (model prog w) A (call (.builtin "len") [.ref l]) Q E s := by
  obtain ⟨vs, a, hi⟩ := hl
  have := hi.length
  refine b_len_list S a (by simpa [this] using hn) fun t s' S' => ?_
  simpa [this] using h t s' S'
theorem l_at {value slice : Expr} {l : Addr} {ns : List Int} {k : Int} {u : Tok} {Q : Value → Shared → Prop} (hl : IntL s.heap l ns) (h0 : 0 ≤ k) (h1 : k < ns.length) (hn : ns.length ≤ 16777216)
    (hs : subscripted slice false (.ref l) (.int k u) = operate [.ref l, .int k u] (getItem (.ref l) (.int k u))) (h : ∀ t, Q (.int (ns.getD k.toNat 0) t) s) : wpAny (model prog w) A (subscriptTail value slice (.ref l) (.int k u)) Q E s := by
  obtain ⟨vs, a, hi⟩ := hl
  have hk : k.toNat < ns.length := by (first | lia | omega)
  obtain ⟨t, e⟩ := hi.get k.toNat ns[k.toNat] (by simp [hk])
  have : ns.getD k.toNat 0 = ns[k.toNat] := by simp [List.getD, hk]
  exact s_list a h0 (by (first | lia | omega)) (by simpa using e) hs (this ▸ h t)
theorem l_atS {value slice : Expr} {l : Addr} {ns : List Str} {k : Int} {u : Tok} {Q : Value → Shared → Prop} (hl : StrL s.heap l ns) (h0 : 0 ≤ k) (h1 : k < ns.length) (hn : ns.length ≤ 16777216)
    (hs : subscripted slice false (.ref l) (.int k u) = operate [.ref l, .int k u] (getItem (.ref l) (.int k u))) (h : ∀ t, Q (.str (ns.getD k.toNat Str.empty) t) s) : wpAny (model prog w) A (subscriptTail value slice (.ref l) (.int k u)) Q E s := by
  obtain ⟨vs, a, hi⟩ := hl
  have hk : k.toNat < ns.length := by (first | lia | omega)
  obtain ⟨t, e⟩ := hi.get k.toNat ns[k.toNat] (by simp [hk])
  have : ns.getD k.toNat Str.empty = ns[k.toNat] := by simp [List.getD, hk]
  exact s_list a h0 (by (first | lia | omega)) (by simpa using e) hs (this ▸ h t)
/-- a sign of a text -/
theorem t_at {value slice : Expr} {x : Str} {t u : Tok} {k : Int} {Q : Value → Shared → Prop} (S : CS b s₀ h₀ env ρ Λ s) (h0 : 0 ≤ k) (h1 : k < x.length) (hn : x.length ≤ 16777216)
    (hs : subscripted slice false (.str x t) (.int k u) = operate [.str x t, .int k u] (getItem (.str x t) (.int k u)))
    (h : ∀ t s', CS b s₀ h₀ env ρ Λ s' → Q (.str ⟨#[x.cps.getD k.toNat 0]⟩ t) s') : wpAny (model prog w) A (subscriptTail value slice (.str x t) (.int k u)) Q E s := by
  have hk : k.toNat < x.cps.size := by have : (x.length : Int) = x.cps.size := rfl; (first | lia | omega)
  refine tail_any (T := "str") (typeIs_str s x t) slot_str_getitem.lookup (PyProof.Rows.getItem_str (c := x.cps.getD k.toNat 0) ?_ ?_ (h _ _ (S.tok _))) hs
  · simp; (first | lia | omega)
  · have e : seqIndex? k x.length = some k.toNat := PySem.seqIndex_of h0 h1
    rw [e]
    simp [Array.getD, hk]

theorem t_len {x : Str} {t : Tok} {Q : Value → Shared → Prop} (S : CS b s₀ h₀ env ρ Λ s) (hn : x.length ≤ 16777216) (h : ∀ t s', CS b s₀ h₀ env ρ Λ s' → Q (.int x.length t) s') : wpAny (model prog w) A (call (.builtin "len") [.str x t]) Q E s := b_len_str S hn h
theorem t_in {x : Str} {c : Nat} {t u : Tok} {Q : Value → Shared → Prop} (h : Q (.bool (decide (c ∈ x.cps.toList))) s) : wpAny (model prog w) A (compareOp .In (.str ⟨#[c]⟩ u) (.str x t)) Q E s := PyProof.Rows.in_str (by rw [StrLaws.found_one]; exact h)
theorem t_notin {x : Str} {c : Nat} {t u : Tok} {Q : Value → Shared → Prop} (h : Q (.bool (!decide (c ∈ x.cps.toList))) s) : wpAny (model prog w) A (compareOp .NotIn (.str ⟨#[c]⟩ u) (.str x t)) Q E s := PyProof.Rows.notIn_str (by rw [StrLaws.found_one]; exact h)
theorem t_ne {x y : Str} {t u : Tok} {Q : Value → Shared → Prop} (h : Q (.bool (x != y)) s) : wpAny (model prog w) A (compareOp .NotEq (.str x t) (.str y u)) Q E s := PyProof.Rows.ne_str h
theorem t_join {D : Addr} {ys : List Str} {x : Str} {t : Tok} {Q : Value → Shared → Prop} (S : CS b s₀ h₀ env ρ Λ s) (hl : StrL s.heap D ys) (hok : (ys.map (·.length)).sum + ys.length * x.length ≤ 16777216)
    (h : ∀ t s', CS b s₀ h₀ env ρ Λ s' → Q (.str (Txt.join x ys) t) s') : wpAny (model prog w) A (call (.builtin "str.join") [.str x t, .ref D]) Q E s := by
  obtain ⟨vs, a, hi⟩ := hl
  exact PyProof.Rows.join_list a (by simpa using hi) hok fun t' k => h _ _ (S.tok _)

theorem l_notin {l : Addr} {ns : List Int} {k : Int} {t : Tok} {Q : Value → Shared → Prop} (hl : IntL s.heap l ns) (h : Q (.bool (!decide (k ∈ ns))) s) : wpAny (model prog w) A (compareOp .NotIn (.int k t) (.ref l)) Q E s := by
  obtain ⟨vs, a, hi⟩ := hl
  have e : ns.any (· == k) = decide (k ∈ ns) := by rw [Bool.eq_iff_iff]; simp [List.any_eq_true]
  exact PyProof.Rows.notin_list_ints a hi (e ▸ h)
theorem l_eq {l l' : Addr} {ns ms : List Int} {Q : Value → Shared → Prop} (hl : IntL s.heap l ns) (hl' : IntL s.heap l' ms) (hu : A.units + 64 < cLine) (h : Q (.bool (decide (ns = ms))) s) : wpAny (model prog w) A (compareOp .Eq (.ref l) (.ref l')) Q E s := by
  obtain ⟨vs, a, hi⟩ := hl
  obtain ⟨vs', a', hi'⟩ := hl'
  exact W.eq_intsK a hi a' hi' hu h
theorem l_ne {l l' : Addr} {ns ms : List Int} {Q : Value → Shared → Prop} (hl : IntL s.heap l ns) (hl' : IntL s.heap l' ms) (hu : A.units + 64 < cLine) (h : Q (.bool (!decide (ns = ms))) s) : wpAny (model prog w) A (compareOp .NotEq (.ref l) (.ref l')) Q E s := by
  obtain ⟨vs, a, hi⟩ := hl
  obtain ⟨vs', a', hi'⟩ := hl'
  exact W.ne_intsK a hi a' hi' hu h

/-- a new list, among the changed objects -/
theorem CS.pushL (S : CS b s₀ h₀ env ρ Λ s) (o : Obj) (tk : Nat) (hf : o.isFreed = false) : CS b s₀ h₀ env ρ ((s.heap.objs.size, o) :: Λ) { s with heap := s.heap.push o, toks := tk } := by
  have S' := S.pushK o tk
  have hno : ¬ CS.own env Λ s.heap.objs.size := fun h => by obtain ⟨o', q⟩ := S.own_at h; exact absurd (Heap.lt_size q) (Nat.lt_irrefl _)
  refine ⟨S'.kind, S'.same, S'.base, S'.all, S'.ns, S'.cell, S'.cells, S'.apart, S'.kinds, S'.locs, S'.nd, fun p hp => ?_, ?_⟩
  · rcases List.mem_cons.mp hp with rfl | hp
    · exact ⟨Heap.get?_push_size _ hf, fun q => hno (.inl q), fun n q => hno (.inr (.inl ⟨n, q⟩)), fun _ => S.base.none (fresh_none (Nat.le_refl _))⟩
    · exact S'.led p hp
  · rw [List.map_cons, List.nodup_cons]
    exact ⟨fun h => hno (.inr (.inr h)), S.lnd⟩
theorem l_new {vs : List Value} {Q : Value → Shared → Prop} (S : CS b s₀ h₀ env ρ Λ s) (hn : vs.length ≤ 16777216) (h : ∀ l s', CS b s₀ h₀ env ρ ((l, lst vs.toArray 0) :: Λ) s' → s.heap.get? l = none → Q (.ref l) s') : wpAny (model prog w) A (newList vs) Q E s :=
  wpAny_newList (h _ _ (S.pushL _ _ rfl) (fresh_none (Nat.le_refl _))) (by rw [sizeLine_eq]; exact hn)
abbrev tup (ys : Array Value) : Obj := { cls := .type "tuple", data := .seq ys }
theorem u_new {vs : List Value} {Q : Value → Shared → Prop} (S : CS b s₀ h₀ env ρ Λ s) (hn : vs.length ≤ 16777216) (h : ∀ l s', CS b s₀ h₀ env ρ ((l, tup vs.toArray) :: Λ) s' → s.heap.get? l = none → Q (.ref l) s') : wpAny (model prog w) A (newTuple vs) Q E s :=
  wpAny_newObj_type (h _ _ (S.pushL _ _ rfl) (fresh_none (Nat.le_refl _))) (by show vs.toArray.size ≤ sizeLine; rw [sizeLine_eq, List.size_toArray]; exact hn)
/-- list(xs) -/
theorem l_copy {l : Addr} {o : Obj} {items : Array Value} {n : Nat} {Q : Value → Shared → Prop} (S : CS true s₀ h₀ env ρ Λ s) (ho : s.heap.get? l = some o) (hc : o.cls = .type "list") (hd : o.data = .seq items n) (hn : items.size ≤ 16777216)
    (h : ∀ D c s', CS true s₀ h₀ env ρ ((D, lst items c) :: Λ) s' → s.heap.get? D = none → Q (.ref D) s') : wpAny (model prog w) A (call (.type "list") [.ref l]) Q E s :=
  PySem.call_list_seq (hsz := by rw [sizeLine_eq]; exact hn) l (.inl rfl) ho hc hd fun h' c' hk hD => h _ c' _ (S.new (wr := []) (tk := s.toks) rfl (fun a o _ e => hk a o e) (fun _ h => nomatch h) (fun _ h => nomatch h) (fresh_none (Nat.le_refl _)) hD) (fresh_none (Nat.le_refl _))
theorem l_append {l : Addr} {ys : Array Value} {k : Nat} {x : Value} {g : Obj → List (Addr × Obj)} {Q : Value → Shared → Prop} (S : CS true s₀ h₀ env ρ Λ s) (U : ChgF l (lst ys k) Λ g) (hn : ys.size ≤ 16777215)
    (h : ∀ k' s', CS true s₀ h₀ env ρ (g (lst (ys.push x) k')) s' → Q .none s') : wpAny (model prog w) A (call (.builtin "list.append") [.ref l, x]) Q E s := by
  refine wpAny_list_append_plain ⟨k, S.atLed (U.to (lst ys k)).mem⟩ (fun h' hp hs => ?_) (by rw [sizeLine_eq]; (first | lia | omega))
  obtain ⟨k', e⟩ := hp
  have := S.chg (h' := h') (tk := s.toks) (U.to _) (fun c x hc q => hs.extBut c x hc q) e
  exact h k' _ this
end
end Fl

namespace Fl
open PySem PySem.W PySem.Calls PyProof.Rows

theorem CS.since {s₀ s₁ s : Shared} {h₀ : Heap} {env : Env} {ρ : Rho} {Λ : List (Addr × Obj)} (S : CS true s₁ h₀ env ρ Λ s) (e : ∃ h tk, s₁ = { s₀ with heap := h, toks := tk }) : CS true s₀ h₀ env ρ Λ s := by
  refine ⟨S.kind, ?_, S.base, (fun q => nomatch q), S.ns, S.cell, S.cells, S.apart, S.kinds, S.locs, S.nd, S.led, S.lnd⟩
  obtain ⟨h, tk, rfl⟩ := e
  obtain ⟨h', tk', rfl⟩ := S.same
  exact ⟨h', tk', rfl⟩

section
variable {prog : Program} {w : World} {A : Around} {E : Value → Shared → Prop} {s s₀ : Shared} {h₀ : Heap} {env : Env} {ρ ρ' : Rho} {Λ Λ' : List (Addr × Obj)} {b : Bool} {K : Frag}

/-- an object of a class of the text is made: its __init__ in a frame of its own -/
theorem makeK {Q : Value → Shared → Prop} {C f : Addr} {name qual : Str} {params : Arguments} {body : List Stmt} {scope : Scope} {dV kV doc pm cdv ct oc : Value} {an od : Option Addr} {osl : Array (Option Value)} {vals : List Value} (bnd : Value → List (Str × Value)) (ρ : Value → Rho)
    (G : Gr K s.heap) (hroom : A.depth + 1 < recursionLimit) (hm : makesIn K C = true) (hi : findIn K (.ref C) "__init__" = some (some (.ref f))) (hf : typeIn K (.ref f) = some (.type "function"))
    (ho : K.lookup f = some ⟨oc, od, .func (fnOf name qual params body scope dV kV doc pm an cdv ct), osl⟩) (hcd : codeIn K cdv qual = true)
    (hbind : ∀ v, bindArgs (fnOf name qual params body scope dV kV doc pm an cdv ct) ⟨v :: vals, []⟩ = pure (bnd v)) (hd : defOk scope = true) (hb1 : ∀ v, bindsOk scope (bnd v) = true) (hb2 : ∀ v, nodupS ((bnd v).map (·.1)) = true) (hρ : ∀ v, rho0 scope.names (bnd v) = ρ v)
    (h : ∀ x dx L s₁, s.heap.get? x = none → s.heap.get? dx = none → CS true s s.heap (envF qual scope L f cdv) (ρ (.ref x)) [(x, instObj C dx), (dx, dictOf [] 0)] s₁ →
      wpAny (model prog w) ((A.under (.builtin "type.__call__" ⟨.ref C :: vals, []⟩)).deeper (envF qual scope L f cdv)) (execs body (envF qual scope L f cdv)) (RetQ (fun v s' => v = .none ∧ Q (.ref x) s')) (OutE (model prog w) (A.under (.builtin "type.__call__" ⟨.ref C :: vals, []⟩)) (envF qual scope L f cdv) E) s₁) :
    wpAny (model prog w) A (call (.ref C) vals) Q E s := by
  unfold defOk at hd
  simp only [Bool.and_eq_true, Bool.not_eq_true'] at hd
  obtain ⟨⟨⟨h1, h2⟩, h3⟩, h4⟩ := hd
  have h4' : scope.kind = .function := by
    cases hk : scope.kind <;> first | rfl | (rw [hk] at h4; cases h4)
  have G' := G
  obtain ⟨hp, g, d, t, os⟩ := s
  have hX : K.In hp := G.X
  refine wpAny_call (make_core (makes_of hX hm) (looks_findIn hX hi) (fun self => bind_fn hX self hf) (.inl (by rfl)) ?_)
  have k1 : Sub hp ((hp.push emptyDict).push (instObj C hp.objs.size)) := fun a o e => Heap.get?_push_of_some _ (Heap.get?_push_of_some _ e)
  have sz : (hp.push emptyDict).objs.size = hp.objs.size + 1 := Heap.size_push _ _
  have n1 : hp.get? hp.objs.size = none := fresh_none (Nat.le_refl _)
  have n2 : hp.get? (hp.objs.size + 1) = none := fresh_none (Nat.le_succ _)
  have g1 : ((hp.push emptyDict).push (instObj C hp.objs.size)).get? (hp.objs.size + 1) = some (instObj C hp.objs.size) := by
    have := Heap.get?_push_size (hp.push emptyDict) (o := instObj C hp.objs.size) rfl
    rw [sz] at this; exact this
  have g2 : ((hp.push emptyDict).push (instObj C hp.objs.size)).get? hp.objs.size = some (dictOf [] 0) := Heap.get?_push_of_some _ (Heap.get?_push_size _ rfl)
  have GG : Gr K ((hp.push emptyDict).push (instObj C hp.objs.size)) := Gr.mono G' k1
  refine call_def (h₀ := hp) (Λ := [(hp.objs.size + 1, instObj C hp.objs.size), (hp.objs.size, dictOf [] 0)]) (fd := fnOf name qual params body scope dV kV doc pm an cdv ct) ?_ (GG.X _ _ ho) rfl GG.lim (codeRec_of GG.X hcd) rfl (hbind _) rfl (hb1 _) (nodupS_nodup (hb2 _)) (nodupS_nodup h1) (hρ _) k1 ?_ ?_ ?_ h2 h3 h4'
  · exact hroom
  · intro p hp'
    rcases List.mem_cons.mp hp' with rfl | hp'
    · exact ⟨g1, n2⟩
    · rw [List.mem_singleton.mp hp']; exact ⟨g2, n1⟩
  · simp
  · intro s₁ S
    have := h (hp.objs.size + 1) hp.objs.size _ s₁ n2 n1 (S.since ⟨_, t, rfl⟩)
    refine wpAny_mono this (fun fl s' q => ?_) fun e s' q => ?_
    · exact q
    · exact q
end
end Fl

namespace Fl
open PySem PySem.W PySem.Calls PyProof.Rows

/-- rows of a floor: at most twelve, of one length, at most twelve, of the four signs -/
structure Grid (rows : List Str) (wd : Nat) : Prop where
  high : rows.length ≤ 12
  wide : wd ≤ 12
  len : ∀ r ∈ rows, r.length = wd
  none : rows = [] → wd = 0
  sign : ∀ r ∈ rows, ∀ c ∈ r.cps.toList, c = 46 ∨ c = 45 ∨ c = 124 ∨ c = 35
/-- the sign at a place -/
def sg (rows : List Str) (wd : Nat) (p : Int) : Nat := (rows.getD (p / wd).toNat Str.empty).cps.getD (p % wd).toNat 0
def inB (rows : List Str) (wd : Nat) (p : Int) : Bool := decide (0 ≤ p) && decide (p < rows.length * wd)
def hasB (rows : List Str) (wd : Nat) (p : Int) : Bool := inB rows wd p && sg rows wd p != 35
def alongB (c : Nat) : Bool := c == 46 || c == 45
def acrossB (c : Nat) : Bool := c == 46 || c == 124
/-- what Floor.may reckons -/
def mayB (rows : List Str) (wd : Nat) (a c : Int) : Bool :=
  hasB rows wd a && hasB rows wd c &&
    (if max a c - min a c = 1 ∧ min a c / wd = max a c / wd then alongB (sg rows wd (min a c)) && alongB (sg rows wd (max a c))
     else if max a c - min a c = wd then acrossB (sg rows wd (min a c)) && acrossB (sg rows wd (max a c)) else false)
/-- what the laws reckon -/
def mayL (rows : List Str) (wd : Nat) (a c : Int) : Bool :=
  inB rows wd a && inB rows wd c &&
    (if a / wd = c / wd ∧ (a - c).natAbs = 1 then alongB (sg rows wd a) && alongB (sg rows wd c)
     else if a % wd = c % wd ∧ (a / wd - c / wd).natAbs = 1 then acrossB (sg rows wd a) && acrossB (sg rows wd c) else false)
def cellsL (rows : List Str) (wd : Nat) : List Int := ((List.range (rows.length * wd)).map fun (i : Nat) => (i : Int)).filter (hasB rows wd)

theorem Grid.at_ {rows : List Str} {wd : Nat} (g : Grid rows wd) {p : Int} (h0 : 0 ≤ p) (h1 : p < rows.length * wd) : 0 < wd ∧ 0 ≤ p / wd ∧ p / wd < rows.length ∧ 0 ≤ p % wd ∧ p % wd < wd := by
  have hw : 0 < (wd : Int) := by
    rcases Nat.eq_zero_or_pos wd with h | h
    · subst h; simp at h1; (first | lia | omega)
    · (first | lia | omega)
  refine ⟨by (first | lia | omega), Int.ediv_nonneg h0 (by (first | lia | omega)), ?_, Int.emod_nonneg _ (by (first | lia | omega)), Int.emod_lt_of_pos _ hw⟩
  exact Int.ediv_lt_of_lt_mul hw h1

/-- a floor of the program's own -/
structure FloorAt (C : Addr) (h : Heap) (fl l : Addr) (rows : List Str) (wd : Nat) (t1 t2 : Tok) : Prop where
  obj : ObjAt h C fl [(Str.ofString "rows", .ref l), (Str.ofString "high", .int rows.length t1), (Str.ofString "wide", .int wd t2)]
  texts : StrL h l rows
  grid : Grid rows wd
theorem FloorAt.mono {C : Addr} {h h' : Heap} {fl l : Addr} {rows : List Str} {wd : Nat} {t1 t2 : Tok} (F : FloorAt C h fl l rows wd t1 t2) (k : Sub h h') : FloorAt C h' fl l rows wd t1 t2 := ⟨F.obj.mono k, F.texts.mono k, F.grid⟩

theorem row_len {rows : List Str} {wd : Nat} (g : Grid rows wd) {k : Nat} (h : k < rows.length) : (rows.getD k Str.empty).length = wd := by
  have : rows.getD k Str.empty = rows[k] := by simp [List.getD, h]
  rw [this]; exact g.len _ (List.getElem_mem h)
end Fl
namespace Fl
open PySem
theorem one_eq (c d : Nat) : ((⟨#[c]⟩ : Str) == ⟨#[d]⟩) = (c == d) := by rw [Bool.eq_iff_iff]; simp
theorem one_ne (c d : Nat) : ((⟨#[c]⟩ : Str) != ⟨#[d]⟩) = (c != d) := by simp only [bne, one_eq]
end Fl

namespace Fl
open PySem PySem.W PySem.Calls PyProof.Rows PyProof.V PySem.Spec PySem.SeqAt

def nsStr (K : Frag) (x : Str) : Option Str := match nsIn K mainGlobals x with | some (some (.str y _)) => some y | _ => none
def nsInt (K : Frag) (x : Str) : Option Int := match nsIn K mainGlobals x with | some (some (.int y _)) => some y | _ => none
/-- a global name that holds a text, an int -/
structure GS (K : Frag) (x y : Str) : Prop where
  ns : nsStr K x = some y
  nd : (x == ("__debug__" : Str)) = false
structure GI (K : Frag) (x : Str) (y : Int) : Prop where
  ns : nsInt K x = some y
  nd : (x == ("__debug__" : Str)) = false
theorem GS.get {K : Frag} {x y : Str} (g : GS K x y) : ∃ t, nsIn K mainGlobals x = some (some (.str y t)) := by
  have := g.ns
  unfold nsStr at this
  split at this
  · rename_i a b e; cases this; exact ⟨_, e⟩
  · cases this
theorem GI.get {K : Frag} {x : Str} {y : Int} (g : GI K x y) : ∃ t, nsIn K mainGlobals x = some (some (.int y t)) := by
  have := g.ns
  unfold nsInt at this
  split at this
  · rename_i a b e; cases this; exact ⟨_, e⟩
  · cases this

section
variable {prog : Program} {w : World} {A : Around} {E : Value → Shared → Prop} {s s₀ : Shared} {h₀ : Heap} {env : Env} {ρ ρ' : Rho} {Λ Λ' : List (Addr × Obj)} {b : Bool} {K : Frag}
theorem n_gs {x y : Str} {pos : Pos} {Q : Value → Shared → Prop} (S : CS b s₀ h₀ env ρ Λ s) (G : Gr K h₀) (g : GS K x y) (hx : env.kindOf x = some .globalImplicit) (hg : env.globals = mainGlobals) (h : ∀ t, Q (.str y t) s) :
    wpAny (model prog w) A (eval (.Name x pos) env) Q E s := by
  obtain ⟨t, e⟩ := g.get
  exact n_glob S G e hx hg g.nd (h t)
theorem n_gi {x : Str} {y : Int} {pos : Pos} {Q : Value → Shared → Prop} (S : CS b s₀ h₀ env ρ Λ s) (G : Gr K h₀) (g : GI K x y) (hx : env.kindOf x = some .globalImplicit) (hg : env.globals = mainGlobals) (h : ∀ t, Q (.int y t) s) :
    wpAny (model prog w) A (eval (.Name x pos) env) Q E s := by
  obtain ⟨t, e⟩ := g.get
  exact n_glob S G e hx hg g.nd (h t)
theorem b_min {x y : Int} {t u : Tok} {Q : Value → Shared → Prop} (S : CS b s₀ h₀ env ρ Λ s) (hh : A.handled = none) (h : ∀ t s', CS b s₀ h₀ env ρ Λ s' → Q (.int (min x y) t) s') : wpAny (model prog w) A (call (.builtin "min") [.int x t, .int y u]) Q E s := by
  refine PySem.Flt.min_two_num hh (.int _ _) (.int _ _) fun h' tk hk => ?_
  have S' : CS b s₀ h₀ env ρ Λ { s with heap := h', toks := tk } := S.keeps ⟨_, _, rfl, hk⟩
  show Q (if decide (y < x) = true then _ else _) _
  by_cases q : y < x
  · rw [if_pos (decide_eq_true q), ← show min x y = y by (first | lia | omega)]; exact h _ _ S'
  · rw [if_neg (by simpa using q), ← show min x y = x by (first | lia | omega)]; exact h _ _ S'
theorem b_max {x y : Int} {t u : Tok} {Q : Value → Shared → Prop} (S : CS b s₀ h₀ env ρ Λ s) (hh : A.handled = none) (h : ∀ t s', CS b s₀ h₀ env ρ Λ s' → Q (.int (max x y) t) s') : wpAny (model prog w) A (call (.builtin "max") [.int x t, .int y u]) Q E s := by
  refine PySem.Flt.max_two_num hh (.int _ _) (.int _ _) fun h' tk hk => ?_
  have S' : CS b s₀ h₀ env ρ Λ { s with heap := h', toks := tk } := S.keeps ⟨_, _, rfl, hk⟩
  show Q (if decide (x < y) = true then _ else _) _
  by_cases q : x < y
  · rw [if_pos (decide_eq_true q), ← show max x y = y by (first | lia | omega)]; exact h _ _ S'
  · rw [if_neg (by simpa using q), ← show max x y = x by (first | lia | omega)]; exact h _ _ S'
theorem b_abs {x : Int} {t : Tok} {Q : Value → Shared → Prop} (S : CS b s₀ h₀ env ρ Λ s) (h : ∀ t s', CS b s₀ h₀ env ρ Λ s' → Q (.int x.natAbs t) s') : wpAny (model prog w) A (call (.builtin "abs") [.int x t]) Q E s := by
  refine PyProof.Rows.call_abs_int fun u tk => ?_
  have e : (if x < 0 then -x else x) = (x.natAbs : Int) := by (first | lia | omega)
  rw [e]
  exact h _ _ (S.tok _)
theorem y_int_int {x : Int} {t : Tok} {Q : Value → Shared → Prop} (h : Q (.bool true) s) : wpAny (model prog w) A (call (.builtin "isinstance") [.int x t, .type "int"]) Q E s := PySem.IsiPair.int_int h
theorem y_int_bool {x : Int} {t : Tok} {Q : Value → Shared → Prop} (S : CS b s₀ h₀ env ρ Λ s) (h : ∀ s', CS b s₀ h₀ env ρ Λ s' → Q (.bool false) s') : wpAny (model prog w) A (call (.builtin "isinstance") [.int x t, .type "bool"]) Q E s := PySem.IsiPair.int_bool (h _ (S.tok _))
/-- a method of a list -/
theorem m_list {l : Addr} {ys : Array Value} {k : Nat} {name : Str} {id : String} {pl : Sem Bool} {Q : Value × List Value → Shared → Prop} (hl : s.heap.get? l = some (lst ys k)) (slot : Slot "list" name id) (hty : typeOf (.builtin id) = pure (.type "method_descriptor"))
    (h : Q (.builtin id, [.ref l]) s) : wpAny (model prog w) A (getMethod (.ref l) name pl) Q E s :=
  getMethod_builtin ⟨_, hl, rfl⟩ PySem.F.plainAttrs_list slot hty (fun a e => by cases e; exact ⟨_, hl, rfl⟩) h
end
end Fl

namespace Fl
open PySem PySem.W PySem.Calls PyProof.Rows

def upTo (n : Nat) : List Int := (List.range n).map fun (i : Nat) => (i : Int)
def onI (q : Int → Bool) : Value → Bool
  | .int i _ => q i
  | _ => false
theorem ints_of_gets : ∀ (vs : List Value) (k : Nat), (∀ (j : Nat) (v : Value), vs[j]? = some v → ∃ t, v = .int ((k + j : Nat) : Int) t) → IntsAre vs ((List.range' k vs.length).map fun (i : Nat) => (i : Int))
  | [], _, _ => .nil
  | v :: r, k, h => by
    obtain ⟨t, rfl⟩ := h 0 v rfl
    refine .cons _ t (ints_of_gets r (k + 1) fun j v hv => ?_)
    obtain ⟨t, e⟩ := h (j + 1) v hv
    exact ⟨t, by rw [e]; congr 2; (first | lia | omega)⟩
theorem vs_range {vs : List Value} {n : Nat} (h : vs.length = n) (h2 : ∀ (j : Nat) (v : Value), vs[j]? = some v → ∃ t, v = .int (j : Int) t) : IntsAre vs (upTo n) := by
  have := ints_of_gets vs 0 fun j v hv => by obtain ⟨t, e⟩ := h2 j v hv; exact ⟨t, by rw [e]; congr 2; (first | lia | omega)⟩
  rw [h] at this
  rw [upTo, List.range_eq_range']; exact this
theorem vs_list {vs : List Value} {ys : Array Value} (h : vs.length = ys.size) (h2 : ∀ (j : Nat) (v : Value), vs[j]? = some v → ys[j]? = some v) : vs = ys.toList := by
  apply List.ext_getElem? 
  intro j
  cases e : vs[j]? with
  | some v => rw [Array.getElem?_toList]; exact (h2 j v e).symm
  | none =>
    rw [List.getElem?_eq_none_iff] at e
    symm
    rw [List.getElem?_eq_none_iff, Array.length_toList]; (first | lia | omega)
theorem filtI {q : Int → Bool} : ∀ {vs : List Value} {ns : List Int}, IntsAre vs ns → IntsAre (vs.filter (onI q)) (ns.filter q)
  | _, _, .nil => .nil
  | _, _, .cons n t r => by
    rw [List.filter_cons, List.filter_cons]
    show IntsAre (if q n = true then _ else _) _
    split
    · exact .cons n t (filtI r)
    · exact filtI r
theorem filt_true (vs : List Value) : vs.filter (fun _ => true) = vs := by simp
/-- what a comprehension's element is -/
def FII (f : Int → Int) (v y : Value) : Prop := ∃ i t u, v = .int i t ∧ y = .int (f i) u
def FS (P : Str → Prop) (_ y : Value) : Prop := ∃ x u, y = .str x u ∧ P x
theorem pairII {f : Int → Int} : ∀ {vs ys : List Value} {ns : List Int}, IntsAre vs ns → Paired (FII f) vs ys → IntsAre ys (ns.map f)
  | _, _, _, .nil, .nil => .nil
  | _, _, _, .cons n t r, .cons h p => by
    obtain ⟨i, t', u, e1, rfl⟩ := h
    cases e1
    exact .cons _ u (pairII r p)
theorem pairS {P : Str → Prop} : ∀ {vs ys : List Value}, Paired (FS P) vs ys → ∃ xs, StrsAre ys xs ∧ xs.length = vs.length ∧ ∀ x ∈ xs, P x
  | _, _, .nil => ⟨[], .nil, rfl, fun _ h => nomatch h⟩
  | _, _, .cons h p => by
    obtain ⟨x, u, rfl, hx⟩ := h
    obtain ⟨xs, a, b, c⟩ := pairS p
    refine ⟨x :: xs, .cons x u a, by simp [b], fun y hy => ?_⟩
    rcases List.mem_cons.mp hy with rfl | hy
    · exact hx
    · exact c y hy

/-- what is asked of a comprehension's block, by evaluation -/
def compOk (scope : Scope) (env : Env) (x : Str) (ys : List Str) : Bool :=
  scope.names.all (fun y => (decide (y.2 ≠ .free) || (env.cells.lookup y.1).isSome) && decide (y.2 ≠ .cell) && (decide (y.2 ≠ .local) || decide (scope.names.lookup y.1 = some .local))) && decide (scope.names.lookup x = some .local) &&
    (match scope.kind with | .function => true | _ => false) && ys.all (fun y => decide (scope.names.lookup y = some .free) && decide (env.kindOf y = some .cell)) && nodupS (x :: ys)
def Sel (ρc ρ : Rho) : Prop := ∀ y u, Look y u ρc → Look y u ρ
theorem Sel.nil {ρ : Rho} : Sel [] ρ := fun _ _ h => by cases h
theorem Sel.cons {x : Str} {v : Value} {ρc ρ : Rho} (h : Look x v ρ) (r : Sel ρc ρ) : Sel ((x, some v) :: ρc) ρ := fun y u q => by
  cases q with
  | head => exact h
  | tail q => exact r y u q
section
variable {prog : Program} {w : World} {A : Around} {E : Value → Shared → Prop} {s s₀ : Shared} {h₀ : Heap} {env : Env} {ρ ρ' ρc : Rho} {Λ Λ' : List (Addr × Obj)} {K : Frag}
theorem compOk_of {scope : Scope} {x : Str} {ys : List Str} (h : compOk scope env x ys = true) : (∀ n, (n, NameKind.free) ∈ scope.names → ∃ c, env.cells.lookup n = some c) ∧ (∀ y ∈ scope.names, y.2 ≠ .cell) ∧ scope.kind = .function ∧
    (∀ y ∈ scope.names, y.2 = .local → scope.names.lookup y.1 = some .local) ∧ scope.names.lookup x = some .local ∧ (∀ y ∈ ys, scope.names.lookup y = some .free ∧ env.kindOf y = some .cell) ∧ (x :: ys).Nodup := by
  unfold compOk at h
  simp only [Bool.and_eq_true, List.all_eq_true, Bool.or_eq_true, decide_eq_true_eq] at h
  obtain ⟨⟨⟨⟨h1, h2⟩, h3⟩, h4⟩, h5⟩ := h
  refine ⟨fun n hn => ?_, fun y hy => (h1 y hy).1.2, ?_, fun y hy q => ?_, h2, h4, nodupS_nodup h5⟩
  · rcases (h1 _ hn).1.1 with q | q
    · exact absurd rfl q
    · exact Option.isSome_iff_exists.mp q
  · cases hk : scope.kind <;> first | rfl | (rw [hk] at h3; cases h3)
  · rcases (h1 y hy).2 with e | e
    · exact absurd q e
    · exact e
theorem lc {elt iter : Expr} {x : Str} {px : Pos} {ifs : List Expr} {scope : Scope} {pos : Pos} {Q : Value → Shared → Prop} (ρc : Rho) (p : Value → Bool) (F : Value → Value → Prop)
    (_ : CS true s₀ h₀ env ρ Λ s) (hok : compOk scope env x (ρc.map (·.1)) = true) (hc2 : Sel ρc ρ)
    (h : wpAny (model prog w) A (eval iter env) (fun xv s₁ => wpAny (model prog w) A (pyIter xv) (CompK prog w A s₀ h₀ env ρ ρc Λ scope x ifs elt p F (fun D o => ∀ s', CS true s₀ h₀ env ρ ((D, o) :: Λ) s' → Q (.ref D) s')) E s₁) E s)
    (hs : ∀ x, foldedSetIterable iter env x = pure x) :
    wpAny (model prog w) A (eval (.ListComp elt [⟨.Name x px, iter, ifs, 0⟩] scope pos) env) Q E s := by
  obtain ⟨h1, h2, h3, h4, h5, h6, h7⟩ := compOk_of hok
  exact ListComp_CS ρc p F h1 h2 h3 h4 h5 h6 hc2 h7 h hs
theorem x_lc {elt iter : Expr} {x y : Str} {px py : Pos} {ifs : List Expr} {scope : Scope} {pos spos : Pos} {rest : List Stmt} {Q : Flow → Shared → Prop} (ρc : Rho) (p : Value → Bool) (F : Value → Value → Prop)
    (hsw : swapsWith (.ListComp elt [⟨.Name x px, iter, ifs, 0⟩] scope pos) (some (.Name y py)) spos.line env = pure true)
    (_ : CS true s₀ h₀ env ρ Λ s) (hok : compOk scope env x (ρc.map (·.1)) = true) (hy : env.kindOf y = some .local) (hek : env.scope.kind = .function) (hc2 : Sel ρc ρ)
    (h : wpAny (model prog w) A (eval iter env) (fun xv s₁ => wpAny (model prog w) A (pyIter xv) (CompK prog w A s₀ h₀ env ρ ρc Λ scope x ifs elt p F
      (fun D o => ∃ ρ', Put y (.ref D) ρ ρ' ∧ ∀ s', CS true s₀ h₀ env ρ' ((D, o) :: Λ) s' → wpAny (model prog w) A (execs rest env) Q E s')) E s₁) E s)
    (hs : ∀ x, foldedSetIterable iter env x = pure x) :
    wpAny (model prog w) A (execs (.Assign [.Name y py] (.ListComp elt [⟨.Name x px, iter, ifs, 0⟩] scope pos) spos :: rest) env) Q E s := by
  obtain ⟨h1, h2, h3, h4, h5, h6, h7⟩ := compOk_of hok
  exact wpAny_execs_cons (Assign_ListComp_CS ρc p F hsw h1 h2 h3 h4 h5 hy hek h6 hc2 h7 h hs)
theorem comp_it {scope : Scope} {x : Str} {ifs : List Expr} {elt : Expr} {p : Value → Bool} {F : Value → Value → Prop} {Fin : Addr → Obj → Prop} {it : Value} {n : Nat} {P : Nat → Value → Prop} (I : It prog w A s₀ h₀ env ρ Λ n P it s) (hn : n ≤ 16777216)
    (ht : ∀ C i v s₃ E', i < n → P i v → CS false s₃ h₀ (compEnvC scope (closGo env scope.names []) C env) ((x, some v) :: ρc) Λ s₃ →
      wpAny (model prog w) A (forIn ifs true fun c r => if r = true then do let ok ← isTrue c (compEnvC scope (closGo env scope.names []) C env) (eval c (compEnvC scope (closGo env scope.names []) C env)); pure (ForInStep.yield ok) else pure (ForInStep.yield r))
        (fun ok s₄ => ok = p v ∧ Keeps s₃ s₄) E' s₃)
    (he : ∀ C i v s₃ E', i < n → P i v → p v = true → CS false s₃ h₀ (compEnvC scope (closGo env scope.names []) C env) ((x, some v) :: ρc) Λ s₃ →
      wpAny (model prog w) A (eval elt (compEnvC scope (closGo env scope.names []) C env)) (fun y s₄ => F v y ∧ Keeps s₃ s₄) E' s₃)
    (fin : ∀ D k ys (vs : List Value), vs.length = n → (∀ j v, vs[j]? = some v → P j v) → Paired F (vs.filter p) ys.toList → s.heap.get? D = none → Fin D (lst ys k)) :
    CompK prog w A s₀ h₀ env ρ ρc Λ scope x ifs elt p F Fin it s := by
  obtain ⟨I, fp, wr, St, rfl, W, hst, hfp, hwr, hown, S⟩ := I
  have W' : Walks prog w A I fp wr n (fun i v => i < n ∧ P i v) St := ⟨W.sub, W.frame, fun i s Q E hi st hQ => W.item i s Q E hi st fun v h' tk hP => hQ v h' tk ⟨hi, hP⟩, W.done, W.self⟩
  exact ⟨I, fp, wr, n, (fun i v => i < n ∧ P i v), St, rfl, W', by rw [sizeLine_eq]; exact hn, hst, hfp, S, hwr, fun a ha => hown a (W.sub a ha), fun C i v s₃ E' h => ht C i v s₃ E' h.1 h.2, fun C i v s₃ E' h => he C i v s₃ E' h.1 h.2,
    fun D k ys vs h1 h2 => fin D k ys vs h1 fun j v hv => (h2 j v hv).2⟩
theorem tests0 {M : Model} {e : Env} {Q : Bool → Shared → Prop} (h : Q true s) :
    wpAny M A (forIn ([] : List Expr) true fun c r => if r = true then do let ok ← isTrue c e (eval c e); pure (ForInStep.yield ok) else pure (ForInStep.yield r)) Q E s := by
  rw [List.forIn_nil]; exact wpAny_pure h
theorem tests1 {M : Model} {c : Expr} {e : Env} {Q : Bool → Shared → Prop} (h : wpAny M A (isTrue c e (eval c e)) Q E s) :
    wpAny M A (forIn [c] true fun c r => if r = true then do let ok ← isTrue c e (eval c e); pure (ForInStep.yield ok) else pure (ForInStep.yield r)) Q E s := by
  rw [List.forIn_cons, if_pos rfl]
  refine wpAny_bind (wpAny_bind (wpAny_mono h (fun v s' q => wpAny_pure ?_) fun _ _ q => q))
  show wpAny _ _ (forIn ([] : List Expr) _ _) _ _ _
  rw [List.forIn_nil]; exact wpAny_pure q
theorem x_attr {o value : Expr} {attr : Str} {pos' pos : Pos} {rest : List Stmt} {M : Model} {Q : Flow → Shared → Prop}
    (h : wpAny M A (eval value env) (fun v s₁ => wpAny M A (eval o env) (fun ov s₂ => wpAny M A (setAttr ov attr v) (fun _ s₃ => wpAny M A (execs rest env) Q E s₃) E s₂) E s₁) E s)
    (hs : swapsWith value (some (.Attribute o attr pos')) pos.line env = pure false) : wpAny M A (execs (.Assign [.Attribute o attr pos'] value pos :: rest) env) Q E s :=
  wpAny_execs_cons (plainObj_wpAny_Assign_Attribute h hs)
end
theorem join_toList : ∀ (l : List Str), (Str.join (Str.ofString "") l).cps.toList = l.flatMap fun x => x.cps.toList
  | [] => rfl
  | [x] => by simp [Str.join]
  | x :: y :: r => by
    have h := join_toList (y :: r)
    rw [List.flatMap_cons, ← h]
    show (x.cps ++ (Str.ofString "").cps ++ (Str.join (Str.ofString "") (y :: r)).cps).toList = _
    rw [show (Str.ofString "").cps = #[] from rfl]
    simp
theorem joined_toList (l : List Str) : (Txt.join (Str.ofString "") l).cps.toList = l.flatMap fun x => x.cps.toList := by
  rw [← join_toList]
  show (Builtin.Str.glued (Str.ofString "") l).cps.toList = _
  rw [StrLaws.glued_eq_join]
end Fl

namespace Fl
open PySem PySem.W PySem.Calls PyProof.Rows

/-- what a call has made newly stands in h₁ -/
def Newer (s s' : Shared) (h₁ : Heap) : Prop := ∀ a o, s.heap.get? a = none → s'.heap.get? a = some o → h₁.get? a = some o
section
variable {prog : Program} {w : World} {A : Around} {E : Value → Shared → Prop} {s s' s₀ : Shared} {h₀ h₁ : Heap} {env : Env} {ρ ρ' ρc : Rho} {Λ Λ' : List (Addr × Obj)} {K : Frag}
theorem It.cs {n : Nat} {P : Nat → Value → Prop} {it : Value} (I : It prog w A s₀ h₀ env ρ Λ n P it s) : CS true s₀ h₀ env ρ Λ s := by
  obtain ⟨_, _, _, _, _, _, _, _, _, _, S⟩ := I; exact S
theorem CS.newAt (S : CS true s₀ h₀ env ρ Λ s) (k : Sub s₀.heap h₀) {a : Addr} {o : Obj} (hm : (a, o) ∈ Λ) (hn : Newer s₀ s h₁) : h₁.get? a = some o := hn _ _ (k.none ((S.led _ hm).2.2.2 rfl)) (S.led _ hm).1
theorem CS.adopt {D : Addr} {o : Obj} (S : CS true s₀ h₀ env ρ Λ s) (hk : Keeps s s') (hD : s.heap.get? D = none) (hD' : s'.heap.get? D = some o) : CS true s₀ h₀ env ρ ((D, o) :: Λ) s' := by
  obtain ⟨h', tk, rfl, k⟩ := hk
  exact S.new (wr := []) rfl (fun a o _ e => k a o e) (fun _ h => nomatch h) (fun _ h => nomatch h) hD hD'
theorem CS.gnew (S : CS true s₀ h₀ env ρ Λ s) (k : Keeps s s') : ∃ h₁, Sub h₀ h₁ ∧ CS true s₀ h₁ env ρ Λ s' ∧ Newer s s' h₁ := S.grow k
/-- behind a call: all that it left stands -/
theorem CS.outs (S : CS true s₀ h₀ env ρ Λ s) (k : Sub s₀.heap h₀) : Keeps s₀ s := (S.drop k).out
theorem Room.under {n k : Nat} {C : Addr} {vals : List Value} (r : Room A n) (h : k + 2 ≤ n) : Room (A.under (.builtin "type.__call__" ⟨.ref C :: vals, []⟩)) k := by
  have hd := depth_under_make A C vals
  have hd' : (Code.builtin "type.__call__" ⟨.ref C :: vals, []⟩).frames ≤ 1 := by
    first | exact Nat.le_of_eq (show _ = 1 from rfl) | (have h0 : (Code.builtin "type.__call__" ⟨.ref C :: vals, []⟩).frames = 0 := rfl; (first | lia | omega)) | (have h0 : (Code.builtin "type.__call__" ⟨.ref C :: vals, []⟩).frames = 0 := (by simp [Code.frames]); (first | lia | omega))
  have hu : (A.under (.builtin "type.__call__" ⟨.ref C :: vals, []⟩)).units ≤ A.units + 10 := by
    show A.units + Code.cUnits (.builtin "type.__call__" ⟨.ref C :: vals, []⟩) ≤ _
    have : Code.cUnits (.builtin "type.__call__" ⟨.ref C :: vals, []⟩) = 1 + 3 * (Code.builtin "type.__call__" ⟨.ref C :: vals, []⟩).frames := rfl
    (first | lia | omega)
  refine ⟨?_, ?_, r.handled⟩
  · have := r.depth; (first | lia | omega)
  · have := r.units; (first | lia | omega)
theorem x_e {e : Expr} {pos : Pos} {rest : List Stmt} {Q : Flow → Shared → Prop} (h : wpAny (model prog w) A (eval e env) (fun _ s' => wpAny (model prog w) A (execs rest env) Q E s') E s)
    (hi : interactive env = false) (hs : swapsWith e none pos.line env = pure false) : wpAny (model prog w) A (execs (.Expr e pos :: rest) env) Q E s := wpAny_execs_cons (wpAny_Expr_any h hi hs)
end
end Fl

namespace Fl
open PySem PySem.W PySem.Calls PyProof.Rows

section
variable {prog : Program} {w : World} {A : Around} {E : Value → Shared → Prop} {s s₀ : Shared} {h₀ : Heap} {env : Env} {ρ : Rho} {Λ : List (Addr × Obj)}
/-- a statement that always goes on, by what holds behind it -/
theorem x_cutS {st : Stmt} {rest : List Stmt} {Q : Flow → Shared → Prop} (_ : CS true s₀ h₀ env ρ Λ s) (P : Rho → List (Addr × Obj) → Prop)
    (h1 : ∀ Q' : Flow → Shared → Prop, (∀ ρ' Λ' s', P ρ' Λ' → CS true s₀ h₀ env ρ' Λ' s' → Q' .next s') → wpAny (model prog w) A (execs [st] env) Q' E s)
    (h2 : ∀ ρ' Λ' s', P ρ' Λ' → CS true s₀ h₀ env ρ' Λ' s' → wpAny (model prog w) A (execs rest env) Q E s') : wpAny (model prog w) A (execs (st :: rest) env) Q E s :=
  x_cut (fun s' => ∃ ρ' Λ', P ρ' Λ' ∧ CS true s₀ h₀ env ρ' Λ' s') (x_one (h1 _ fun ρ' Λ' s' a b => ⟨rfl, ρ', Λ', a, b⟩)) fun s' ⟨ρ', Λ', a, b⟩ => h2 ρ' Λ' s' a b
end

theorem test_lastE {M : Model} {A : Around} {E : Value → Shared → Prop} {s : Shared} {env : Env} {pos : Pos} {a : Value} {op : CmpOp} {r : Sem Value} {Q : Bool → Shared → Prop}
    (h : wpAny M A r (fun b s₁ => wpAny M A (compareOp op a b) (fun c s₂ => wpAny M A (truthy c) Q E s₂) E s₁) E s) : wpAny M A (testChain pos a [op] (r :: evalEach [] env)) Q E s := test_last h
/-- as callP, for the code of a call -/
theorem callC {prog : Program} {w : World} {A : Around} {s : Shared} {K : Frag} {R : Result → Shared → Prop} {f : Addr} {name qual : Str} {params : Arguments} {body : List Stmt} {scope : Scope} {dV kV doc pm cdv ct oc : Value} {an od : Option Addr} {osl : Array (Option Value)} {vals : List Value} {binds : List (Str × Value)} (ρ : Rho)
    (G : Gr K s.heap) (hroom : A.depth < recursionLimit)
    (ho : K.lookup f = some ⟨oc, od, .func (fnOf name qual params body scope dV kV doc pm an cdv ct), osl⟩) (hcd : codeIn K cdv qual = true)
    (hbind : bindArgs (fnOf name qual params body scope dV kV doc pm an cdv ct) ⟨vals, []⟩ = pure binds) (hd : defOk scope = true) (hb1 : bindsOk scope binds = true) (hb2 : nodupS (binds.map (·.1)) = true) (hρ : rho0 scope.names binds = ρ)
    (h : ∀ L s₁, CS true s s.heap (envF qual scope L f cdv) ρ [] s₁ →
      wpAny (model prog w) (A.deeper (envF qual scope L f cdv)) (execs body (envF qual scope L f cdv)) (RetQ fun v s' => R (.ok (.ret v)) s') (OutE (model prog w) A (envF qual scope L f cdv) fun e s' => R (.error e) s') s₁) :
    codeAny (model prog w) A (.call (.ref f) ⟨vals, []⟩) R s := by
  unfold defOk at hd
  simp only [Bool.and_eq_true, Bool.not_eq_true'] at hd
  obtain ⟨⟨⟨h1, h2⟩, h3⟩, h4⟩ := hd
  have h4' : scope.kind = .function := by
    cases hk : scope.kind <;> first | rfl | (rw [hk] at h4; cases h4)
  exact call_def (Λ := []) (fd := fnOf name qual params body scope dV kV doc pm an cdv ct) hroom (G.X _ _ ho) rfl G.lim (codeRec_of G.X hcd) rfl hbind rfl hb1 (nodupS_nodup hb2) (nodupS_nodup h1) hρ (Sub.refl _) (fun _ h => nomatch h) List.nodup_nil (h _) h2 h3 h4'
def four (c : Nat) : Prop := c = 46 ∨ c = 45 ∨ c = 124 ∨ c = 35
theorem join_signs (xs : List Str) (h : ∀ x ∈ xs, ∃ c, x = ⟨#[c]⟩ ∧ four c) : (Txt.join (Str.ofString "") xs).length = xs.length ∧ ∀ c ∈ (Txt.join (Str.ofString "") xs).cps.toList, four c := by
  have e := joined_toList xs
  have h1 : (xs.flatMap fun x => x.cps.toList).length = xs.length ∧ ∀ c ∈ (xs.flatMap fun x => x.cps.toList), four c := by
    clear e
    induction xs with
    | nil => exact ⟨rfl, fun _ h => nomatch h⟩
    | cons x r ih =>
      obtain ⟨c, rfl, hc⟩ := h x (List.mem_cons_self ..)
      obtain ⟨i1, i2⟩ := ih fun y hy => h y (List.mem_cons_of_mem _ hy)
      rw [List.flatMap_cons]
      refine ⟨by simp [i1] , fun d hd => ?_⟩
      rcases List.mem_append.mp hd with q | q
      · rw [show d = c by simpa using q]; exact hc
      · exact i2 d q
  rw [← e] at h1
  refine ⟨?_, h1.2⟩
  rw [← h1.1]
  exact Array.length_toList.symm

/-- a place in the rows joined -/
theorem flat_get {wd : Nat} : ∀ (rows : List (List Nat)) (p : Nat), (∀ r ∈ rows, r.length = wd) → 0 < wd → (rows.flatMap id)[p]?.getD 0 = ((rows[p / wd]?).getD [])[p % wd]?.getD 0
  | [], p, _, _ => by simp
  | r :: rs, p, h, hw => by
    have hr := h r (List.mem_cons_self ..)
    rw [List.flatMap_cons, id, List.getElem?_append]
    by_cases hp : p < wd
    · rw [if_pos (by (first | lia | omega)), Nat.div_eq_of_lt hp, Nat.mod_eq_of_lt hp]; rfl
    · rw [if_neg (by (first | lia | omega)), hr, flat_get rs (p - wd) (fun x hx => h x (List.mem_cons_of_mem _ hx)) hw]
      have e1 : p / wd = (p - wd) / wd + 1 := by
        rw [Nat.div_eq p wd, if_pos ⟨hw, by (first | lia | omega)⟩]
      have e2 : p % wd = (p - wd) % wd := by rw [Nat.mod_eq_sub_mod (by (first | lia | omega))]
      rw [e1, e2]; simp
theorem joined_get {rows : List Str} {wd : Nat} (g : Grid rows wd) (p : Nat) (hw : 0 < wd) : (Txt.join (Str.ofString "") rows).cps.getD p 0 = sg rows wd p := by
  have e := joined_toList rows
  have e' : (rows.flatMap fun x => x.cps.toList) = (rows.map fun x => x.cps.toList).flatMap id := by rw [List.flatMap_map]; rfl
  have : (Txt.join (Str.ofString "") rows).cps.getD p 0 = (Txt.join (Str.ofString "") rows).cps.toList[p]?.getD 0 := by
    simp [Array.getD_eq_getD_getElem?]
  rw [this, e, e', flat_get _ _ (wd := wd) (fun r hr => ?_) hw]
  · unfold sg
    have h1 : ((p : Int) / (wd : Int)).toNat = p / wd := by rw [← Int.natCast_ediv, Int.toNat_natCast]
    have h2 : ((p : Int) % (wd : Int)).toNat = p % wd := by rw [← Int.natCast_emod, Int.toNat_natCast]
    rw [h1, h2, List.getElem?_map]
    cases q : rows[p / wd]? with
    | none => simp [List.getD, q, Str.empty]
    | some r => simp [List.getD, q, Array.getD_eq_getD_getElem?]
  · obtain ⟨x, hx, rfl⟩ := List.mem_map.mp hr
    rw [Array.length_toList]; exact g.len x hx
theorem joined_len {rows : List Str} {wd : Nat} (g : Grid rows wd) : (Txt.join (Str.ofString "") rows).length = rows.length * wd := by
  have e := joined_toList rows
  have hl := g.len
  have : (rows.flatMap fun x => x.cps.toList).length = rows.length * wd := by
    clear e g
    induction rows with
    | nil => simp
    | cons x r ih =>
      have := hl x (List.mem_cons_self ..)
      have h2 : x.cps.toList.length = wd := by rw [Array.length_toList]; exact this
      rw [List.flatMap_cons, List.length_append, ih fun y hy => hl y (List.mem_cons_of_mem _ hy), h2, List.length_cons, Nat.succ_mul]; (first | lia | omega)
  rw [← e, Array.length_toList] at this
  exact this
theorem cells_mem {rows : List Str} {wd : Nat} (p : Int) : decide (p ∈ cellsL rows wd) = hasB rows wd p := by
  rw [Bool.eq_iff_iff, decide_eq_true_iff]
  unfold cellsL
  rw [List.mem_filter]
  refine ⟨fun h => h.2, fun h => ⟨?_, h⟩⟩
  have : 0 ≤ p ∧ p < rows.length * wd := by
    simp [hasB, inB] at h; exact h.1
  have e : ((rows.length : Int) * wd) = ((rows.length * wd : Nat) : Int) := by rw [Int.natCast_mul]
  exact List.mem_map.mpr ⟨p.toNat, List.mem_range.mpr (by (first | lia | omega)), by (first | lia | omega)⟩

theorem div_step {a c w : Int} (hw : 0 < w) : c - a = w ↔ (a % w = c % w ∧ c / w - a / w = 1) := by
  have e1 := Int.emod_add_mul_ediv a w
  have e2 := Int.emod_add_mul_ediv c w
  constructor
  · intro h
    have : c = a + 1 * w := by (first | lia | omega)
    subst this
    rw [Int.add_mul_emod_self_right, Int.add_mul_ediv_right a 1 (by (first | lia | omega))]
    exact ⟨rfl, by (first | lia | omega)⟩
  · rintro ⟨h1, h2⟩
    have h3 : c / w = a / w + 1 := by (first | lia | omega)
    rw [h3, Int.mul_add, Int.mul_one] at e2
    (first | lia | omega)
theorem may_eq {rows : List Str} {wd : Nat} (g : Grid rows wd) (a c : Int) : mayB rows wd a c = mayL rows wd a c := by
  unfold mayB mayL
  by_cases h1 : inB rows wd a = true
  · by_cases h2 : inB rows wd c = true
    · have g1 : 0 ≤ a ∧ a < rows.length * wd := by simpa [inB] using h1
      have g2 : 0 ≤ c ∧ c < rows.length * wd := by simpa [inB] using h2
      obtain ⟨hw, _⟩ := g.at_ g1.1 g1.2
      have hw2 := g.wide
      simp only [hasB, h1, h2, Bool.true_and]
      have k1 : (max a c - min a c = 1 ∧ min a c / wd = max a c / wd) ↔ (a / wd = c / wd ∧ (a - c).natAbs = 1) := by
        rcases Int.le_total a c with q | q
        · rw [Int.max_eq_right q, Int.min_eq_left q, and_comm]
          exact and_congr Iff.rfl (by clear g1 g2 h1 h2; omega)
        · rw [Int.max_eq_left q, Int.min_eq_right q, and_comm]
          exact and_congr ⟨Eq.symm, Eq.symm⟩ (by clear g1 g2 h1 h2; omega)
      have k2 : (max a c - min a c = wd) ↔ (a % wd = c % wd ∧ (a / wd - c / wd).natAbs = 1) := by
        have d1 := div_step (a := a) (c := c) (w := wd) (by omega)
        have d2 := div_step (a := c) (c := a) (w := wd) (by omega)
        have e : (a / (wd : Int) - c / (wd : Int)).natAbs = 1 ↔ (c / (wd : Int) - a / (wd : Int) = 1 ∨ a / (wd : Int) - c / (wd : Int) = 1) := by omega
        rw [e]
        have m : max a c - min a c = wd ↔ (c - a = wd ∨ a - c = wd) := by
          clear g1 g2 h1 h2 d1 d2 e
          rcases Int.le_total a c with q | q
          · rw [Int.max_eq_right q, Int.min_eq_left q]
            exact ⟨.inl, fun z => z.elim id fun z => by omega⟩
          · rw [Int.max_eq_left q, Int.min_eq_right q]
            exact ⟨.inr, fun z => z.elim (fun z => by omega) id⟩
        rw [m, d1, d2]
        exact ⟨fun h => h.elim (fun h => ⟨h.1, .inl h.2⟩) (fun h => ⟨h.1.symm, .inr h.2⟩), fun h => h.2.elim (fun q => .inl ⟨h.1, q⟩) (fun q => .inr ⟨h.1.symm, q⟩)⟩
      have sw : ∀ f : Nat → Bool, (f (sg rows wd (min a c)) && f (sg rows wd (max a c))) = (f (sg rows wd a) && f (sg rows wd c)) := fun f => by
        rcases Int.le_total a c with q | q
        · rw [Int.max_eq_right q, Int.min_eq_left q]
        · rw [Int.max_eq_left q, Int.min_eq_right q, Bool.and_comm]
      have al : ∀ c, alongB c = true → (c != 35) = true := fun c h => by simp [alongB] at h; simp; omega
      have ac : ∀ c, acrossB c = true → (c != 35) = true := fun c h => by simp [acrossB] at h; simp; omega
      rw [sw alongB, sw acrossB]
      by_cases q1 : (a / wd = c / wd ∧ (a - c).natAbs = 1)
      · rw [if_pos q1, if_pos (k1.mpr q1)]
        cases e1 : alongB (sg rows wd a) <;> cases e2 : alongB (sg rows wd c) <;> simp_all
      · rw [if_neg q1, if_neg (fun q => q1 (k1.mp q))]
        by_cases q2 : (a % wd = c % wd ∧ (a / wd - c / wd).natAbs = 1)
        · rw [if_pos q2, if_pos (k2.mpr q2)]
          cases e1 : acrossB (sg rows wd a) <;> cases e2 : acrossB (sg rows wd c) <;> simp_all
        · rw [if_neg q2, if_neg (fun q => q2 (k2.mp q))]; simp
    · have h2' : inB rows wd c = false := by simpa using h2
      simp [hasB, h2']
  · have h1' : inB rows wd a = false := by simpa using h1
    simp [hasB, h1']
end Fl

namespace Fl
open PySem PySem.W PySem.Calls PyProof.Rows PyProof.V PySem.Spec Builtin Builtin.ObjectAttr Builtin.Getset_descriptor

abbrev vmro : List Value := [.type "ValueError", .type "Exception", .type "BaseException", .type "object"]
/-- what is asked of an exception class of the text, by evaluation -/
structure ExcK (K : Frag) (C : Addr) : Prop where
  is : excIn K C vmro "ValueError.__new__" = true
  ga : findIn K (.ref C) "__getattribute__" = some (some (.builtin "BaseException.__getattribute__"))
  gh : findIn K (.ref C) "__getattr__" = some none
  cl : findIn K (.ref C) "__class__" = some (some (.builtin "object.__class__"))
  sp : specialIn K (.builtin "object.__class__") "__get__" = some (some (.builtin "getset_descriptor.__get__"))
  tk : takesIn K (.builtin "object.__class__") = some true
  mr : mroIn K C (.type "object") = some true
  bs : subIn K (.ref C) (.type "BaseException") = some true
  cs : (clsIn K C).isSome = true

/-- an exception object of a class of the text -/
def ExcAt (h : Heap) (e C : Addr) : Prop := ∃ oe, h.get? e = some oe ∧ oe.cls = .ref C
theorem ExcAt.type {h : Heap} {e C : Addr} (x : ExcAt h e C) (M : Model) : Looks M h (typeOf (.ref e)) (.ref C) := by
  obtain ⟨o, a, b⟩ := x
  exact b ▸ (Looks.ld a).andThen .now

section
variable {prog : Program} {w : World} {A : Around} {E : Value → Shared → Prop} {s : Shared} {K : Frag} {e C D : Addr}
theorem y_exc_yes {Q : Value → Shared → Prop} (X : K.In s.heap) (x : ExcAt s.heap e C) (hy : isIn K (.ref C) D = true) (h : Q (.bool true) s) : wpAny (model prog w) A (call (.builtin "isinstance") [.ref e, .ref D]) Q E s :=
  isi_call X (fun M => x.type M) hy (by intro q; cases q) h
end
end Fl

namespace Fl
open PySem PySem.W PySem.Calls PyProof.Rows

/-- the frames that stand around: B is a part of the heap that holds none of their names' objects -/
structure Stk (A : Around) (B : Heap) (outer : List Env) (h : Heap) : Prop where
  frames : A.frames = some outer
  funs : h.FunFrames B outer
  stays : Sub B h
theorem Stk.go {A : Around} {B : Heap} {outer : List Env} {h h' : Heap} (k : Stk A B outer h) (u : h.UpToSlots h') (st : Sub B h') : Stk A B outer h' :=
  ⟨k.frames, Heap.FunFrames.of_keeps (fun b o e hn => let ⟨sl, q⟩ := u b o e hn; ⟨_, q, rfl⟩) k.funs, st⟩
theorem Stk.mono {A : Around} {B : Heap} {outer : List Env} {h h' : Heap} (k : Stk A B outer h) (s : Sub h h') : Stk A B outer h' := k.go (Heap.UpToSlots.of_keeps s) (k.stays.trans s)

/-- an exception of the class C that has come out of a call -/
structure Fly (B : Heap) (outer : List Env) (e C : Addr) (s s' : Shared) : Prop where
  same : ∃ h tk, s' = { s with heap := h, toks := tk }
  fly : ∃ a0, Heap.FlyingW B outer e (.ref C) a0 s'.heap
  up : s.heap.UpToSlots s'.heap

section
variable {M : Model} {prog : Program} {w : World} {A : Around} {E : Value → Shared → Prop} {s s' s₀ : Shared} {h₀ B : Heap} {env : Env} {ρ : Rho} {Λ : List (Addr × Obj)} {outer : List Env} {e C : Addr} {K : Frag}
theorem Stk.deeper (k : Stk A B outer s.heap) (S : CS true s₀ h₀ env ρ Λ s) (hB : Sub B h₀) (hf : env.frame = some env.locals) : Stk (A.deeper env) B (env :: outer) s.heap := by
  obtain ⟨m, hn, _⟩ := S.ns
  exact ⟨Around.frames_deeper k.frames, Heap.FunFrames.cons (by rw [S.kind]; intro q; cases q) hf hn (hB.none (S.locs rfl)) k.funs, hB.trans S.base⟩
theorem out_first {h' : Heap} {args : List Value} (k : Stk A B outer s₀.heap) (S : CS true s₀ h₀ env ρ Λ s) (hB : Sub B h₀) (hf : env.frame = some env.locals) (u : s₀.heap.UpToSlots s.heap) (hx : Heap.MadeExcOf s.heap h' e (.ref C) args)
    (hE : ∀ s', Fly B outer e C s₀ s' → E (.ref e) s') : OutE M A env E (.ref e) { s with heap := h' } := by
  have kd : Sub s.heap h' := hx.keeps
  have ks : Stk A B outer s.heap := k.go u (hB.trans S.base)
  have k2 : Stk (A.deeper env) B (env :: outer) h' := (ks.deeper S hB hf).mono kd
  obtain ⟨t, ho, _⟩ := hx.there
  have hen : B.get? e = none := by
    refine (hB.trans S.base).none ?_
    exact hx.new
  refine wpAny_leaving_firstW (base := B) k2.frames k2.funs hf ho k2.stays hen rfl rfl rfl fun h'' L => hE _ ?_
  obtain ⟨l1, l2, l3, l4⟩ := L
  obtain ⟨hs, tks, rfl⟩ := S.same
  exact ⟨⟨h'', _, rfl⟩, ⟨_, l1, hen, l2.2.2, l3⟩, u.trans ((Heap.UpToSlots.of_keeps kd).trans l4)⟩
theorem x_raise {x m : Str} {np cpos pos cp : Pos} {ck : Nat} {rest : List Stmt} {Q : Flow → Shared → Prop} (S : CS true s₀ h₀ env ρ Λ s) (G : Gr K h₀) (g : GF K x C) (k : ExcK K C) (hh : A.handled = none)
    (hx : env.kindOf x = some .globalImplicit) (hg : env.globals = mainGlobals)
    (h : ∀ h' e args s', CS true s₀ h₀ env ρ Λ s' → Heap.MadeExcOf s'.heap h' e (.ref C) args → E (.ref e) { s' with heap := h' }) :
    wpAny (model prog w) A (execs (.Raise (some (.Call (.Name x np) [.Constant (.str m) ck cp] [] cpos)) none pos :: rest) env) Q E s := by
  obtain ⟨p, l, mg, mb, T⟩ := G.tr
  obtain ⟨bm, N, nm, q, bs, hdct, sn, sub, ab, col, dd, k0, k1, k2, k3, k5, mN, hC, hN, hni, TL⟩ := (own_of_in G.X T g.ns k.is).obj
  refine wpAny_execs_cons (wpAny_Raise_call_subT (nm := nm) (q := q) (N := N) (bs := bs) (hdct := hdct) (sn := sn) (sub := sub) (ab := ab) (col := col) (dd := dd) (k0 := k0) (k1 := k1) (k2 := k2) (k3 := k3) (k5 := k5) F.excBase_ValueError (TL.hasType rfl) hh rfl hni (n_glob S G g.ns hx hg g.nd ⟨rfl, ?_⟩))
  refine Calls.evalArgs_plain (args_cons (c_str S fun t s' S' => args_nil ?_) rfl)
  exact ⟨rfl, by show 1 ≤ sizeLine; rw [sizeLine_eq]; decide, S'.base _ _ hC, hN.keeps S'.base, TL.keeps S'.base, fun h' e hx => h h' e _ s' S' hx⟩

/-- objects that are the same but for their slots -/
inductive Slk : List (Addr × Obj) → List (Addr × Obj) → Prop
  | nil : Slk [] []
  | cons {a o sl r r'} : Slk r r' → Slk ((a, o) :: r) ((a, { o with slots := sl }) :: r')
theorem Slk.refl : ∀ Λ : List (Addr × Obj), Slk Λ Λ
  | [] => .nil
  | (a, o) :: r => Slk.cons (sl := o.slots) (Slk.refl r)
theorem Slk.trans {Λ₁ Λ₂ Λ₃ : List (Addr × Obj)} (x : Slk Λ₁ Λ₂) (y : Slk Λ₂ Λ₃) : Slk Λ₁ Λ₃ := by
  induction x generalizing Λ₃ with
  | nil => exact y
  | cons _ ih => cases y with | cons y => exact .cons (ih y)
theorem Slk.adr {Λ Λ' : List (Addr × Obj)} (x : Slk Λ Λ') : Λ'.map (·.1) = Λ.map (·.1) := by
  induction x with
  | nil => rfl
  | cons _ ih => simp only [List.map_cons, ih]
theorem slk_of {h : Heap} : ∀ {Λ : List (Addr × Obj)}, (∀ p ∈ Λ, ∃ sl, h.get? p.1 = some { p.2 with slots := sl }) → ∃ Λ', Slk Λ Λ' ∧ ∀ p ∈ Λ', h.get? p.1 = some p.2
  | [], _ => ⟨[], .nil, fun _ h => nomatch h⟩
  | (a, o) :: r, k => by
    obtain ⟨sl, e⟩ := k (a, o) (List.mem_cons_self ..)
    obtain ⟨Λ', x, y⟩ := slk_of (Λ := r) fun p hp => k p (List.mem_cons_of_mem _ hp)
    refine ⟨(a, { o with slots := sl }) :: Λ', .cons x, fun p hp => ?_⟩
    rcases List.mem_cons.mp hp with rfl | hp
    · exact e
    · exact y p hp
theorem CS.fly (S : CS true s₀ B env ρ Λ s) (hd : ∀ p ∈ Λ, ∀ vs, p.2.data ≠ .fields vs) (same : ∃ h tk, s' = { s with heap := h, toks := tk }) (st : Sub B s'.heap) (u : s.heap.UpToSlots s'.heap) : ∃ Λ', Slk Λ Λ' ∧ CS true s₀ B env ρ Λ' s' := by
  obtain ⟨Λ', x, y⟩ := slk_of (h := s'.heap) (Λ := Λ) fun p hp => u p.1 p.2 (S.led p hp).1 (hd p hp)
  have hadr : ∀ p ∈ Λ', ∃ q ∈ Λ, q.1 = p.1 := fun p hp => by
    have : p.1 ∈ Λ'.map (·.1) := List.mem_map_of_mem hp
    rw [x.adr] at this
    obtain ⟨q, a, b⟩ := List.mem_map.mp this
    exact ⟨q, a, b⟩
  have cel : ∀ {c : Addr} {v : Option Value}, s.heap.IsCell c v → s'.heap.IsCell c v := fun {c v} ⟨o, a, b⟩ => by
    obtain ⟨sl, q⟩ := u c o a (fun vs z => by rw [b] at z; cases z)
    exact ⟨_, q, b⟩
  refine ⟨Λ', x, S.kind, ?_, st, (fun q => nomatch q), ?_, fun y v c a b d => cel (S.cell y v c a b d), fun n c e => ?_, S.apart, S.kinds, S.locs, S.nd, fun p hp => ?_, ?_⟩
  · obtain ⟨h, tk, rfl⟩ := same; obtain ⟨h0, t0, rfl⟩ := S.same; exact ⟨h, tk, rfl⟩
  · obtain ⟨m, hn, hm⟩ := S.ns; exact ⟨m, u.ns hn, hm⟩
  · obtain ⟨⟨v, a⟩, r⟩ := S.cells n c e; exact ⟨⟨v, cel a⟩, r⟩
  · obtain ⟨q, hq, e⟩ := hadr p hp
    obtain ⟨_, r⟩ := S.led q hq
    rw [e] at r
    exact ⟨y p hp, r⟩
  · rw [x.adr]; exact S.lnd
theorem caught {hs : List ExceptHandler} {Q : Flow → Shared → Prop} (hfr : A.frames = some (env :: outer)) (S : CS true s₀ B env ρ Λ s) (hd : ∀ p ∈ Λ, ∀ vs, p.2.data ≠ .fields vs) (hf : env.frame = some env.locals) (fl : Fly B (env :: outer) e C s s')
    (h : ∀ Λ' s₃, Slk Λ Λ' → CS true s₀ B env ρ Λ' s₃ → (∃ a0, Heap.FlyingW B (env :: outer) e (.ref C) a0 s₃.heap) → wpAny M A (handleBy (.ref e) env hs) Q E s₃) :
    wpAny M A (noteFrame (.ref e) env) (fun _ s₂ => wpAny M A (setFlight (.ref e) none) (fun _ s₃ => wpAny M A (handleBy (.ref e) env hs) Q E s₃) E s₂) E s' := by
  obtain ⟨⟨h', tk, rfl⟩, ⟨a0, f⟩, up⟩ := fl
  refine wpAny_looks_onW hfr hf f fun h₄ g₄ u₄ => ?_
  refine wpAny_landsW g₄ fun h₅ g₅ u₅ => ?_
  obtain ⟨Λ', x, S'⟩ := S.fly hd ⟨h₅, tk, rfl⟩ g₅.1 (up.trans (u₄.trans u₅))
  exact h Λ' _ x S' ⟨a0, g₅⟩
end
end Fl

namespace Fl
open PySem PySem.W PySem.Calls PyProof.Rows

/-- whether an exception of the class C falls to a clause for the class D -/
structure MatchK (K : Frag) (C D : Addr) (b : Bool) : Prop where
  ty : typeIn K (.ref D) = some (.type "type")
  cs : (clsIn K D).isSome = true
  bs : subIn K (.ref D) (.type "BaseException") = some true
  su : subIn K (.ref C) (.ref D) = some b
section
variable {M : Model} {prog : Program} {w : World} {A : Around} {E : Value → Shared → Prop} {s s' s₀ : Shared} {h₀ B : Heap} {env : Env} {ρ : Rho} {Λ : List (Addr × Obj)} {outer : List Env} {e C D : Addr} {K : Frag}
theorem exc_match {b : Bool} {Q : Bool → Shared → Prop} (X : K.In s.heap) (x : ExcAt s.heap e C) (m : MatchK K C D b) (hq : Q b s) : wpAny M A (excMatches (.ref e) (.ref D)) Q E s := by
  obtain ⟨cdD, hcD⟩ := Option.isSome_iff_exists.mp m.cs
  obtain ⟨h, g, d, t, os⟩ := s
  have hisD : Looks M h (isType (.ref D)) true := by
    unfold clsIn at hcD
    split at hcD
    · rename_i c' d' cd' sl' ho
      intro A' Q' E' s' k q
      unfold isType loadHead
      exact wpAny_bind (wpAny_loadPart (k _ _ (X _ _ ho)) (wpAny_pure q))
    · cases hcD
  have LE := x.type M
  have LT : Looks M h (isInstance (.ref D) (.type "tuple")) false := (looks_typeIn (M := M) X m.ty).andThen (Looks.of_pure tc_notTuple)
  have L1 : Looks M h (isExcClass (.ref D)) true := by
    unfold isExcClass
    exact hisD.andThen (looks_subIn X m.bs)
  have L2 := looks_subIn (M := M) X m.su
  unfold excMatches
  refine wpAny_bind (LT.at ?_)
  simp only [Bool.false_eq_true, if_false]
  refine wpAny_bind (wpAny_pure ?_)
  simp only [List.forIn_cons, List.forIn_nil]
  refine wpAny_bind (wpAny_bind (wpAny_bind (L1.at ?_)))
  simp only [Bool.not_true, Bool.false_eq_true, if_false]
  refine wpAny_pure (wpAny_pure ?_)
  refine wpAny_bind (LE.at (wpAny_bind (wpAny_bind (wpAny_bind (L2.at ?_)))))
  cases b
  · simp only [Bool.false_eq_true, if_false]
    exact wpAny_pure (wpAny_pure (wpAny_pure hq))
  · simp only [if_true]
    exact wpAny_pure (wpAny_pure (wpAny_pure hq))

end
end Fl

namespace Fl
open PySem PySem.W PySem.Calls PyProof.Rows

section
variable {prog : Program} {w : World} {A : Around} {E : Value → Shared → Prop} {s s₀ : Shared} {h₀ : Heap} {env : Env} {ρ ρ' : Rho} {Λ Λ' : List (Addr × Obj)} {b : Bool} {K : Frag} {e C D : Addr}
end
end Fl

namespace Fl
open PySem PySem.W PySem.Calls PyProof.Rows

theorem hasB_in {rows : List Str} {wd : Nat} {p : Int} (h : hasB rows wd p = true) : 0 ≤ p ∧ p < rows.length * wd := by
  simp [hasB, inB] at h
  exact h.1
def shadeN (wd : Nat) (p : Int) : Int := if wd = 0 then 0 else (p / wd + p % wd) % 2
/-- the candidates beside a cell, and what Floor.beside gathers of them -/
def nearL (wd : Nat) (p : Int) : List Int := [p - wd, p - 1, p + 1, p + wd]
def gath (m : Int → Bool) (xs : List Int) : List Int := xs.foldl (fun acc y => if y ∉ acc ∧ m y = true then acc ++ [y] else acc) []
def besideL (rows : List Str) (wd : Nat) (p : Int) : List Int := gath (mayB rows wd p) (nearL wd p)
def lnearL (wd : Nat) (p : Int) : List Int := if wd > 1 then nearL wd p else [p - 1, p + 1]
theorem beside_eq {rows : List Str} {wd : Nat} (g : Grid rows wd) {p : Int} (h : hasB rows wd p = true) : besideL rows wd p = (lnearL wd p).filter (mayL rows wd p) := by
  obtain ⟨h0, h1⟩ := hasB_in h
  obtain ⟨hw, _⟩ := g.at_ h0 h1
  have hm : mayL rows wd p = mayB rows wd p := funext fun c => (may_eq g p c).symm
  (first | with_reducible refine jBt hm ?_ | with_reducible refine jBf hm ?_ | with_reducible refine jBn hm ?_ | with_reducible refine jBm hm ?_ | rw [hm])
  unfold besideL gath lnearL nearL
  by_cases h2 : wd > 1
  · rw [if_pos h2]
    have n1 : ¬ (p - 1 = p - (wd : Int)) := by (first | lia | omega)
    have n2 : ¬ (p + 1 = p - (wd : Int)) := by (first | lia | omega)
    have n3 : ¬ (p + 1 = p - 1) := by (first | lia | omega)
    have n4 : ¬ (p + (wd : Int) = p - (wd : Int)) := by (first | lia | omega)
    have n5 : ¬ (p + (wd : Int) = p - 1) := by (first | lia | omega)
    have n6 : ¬ (p + (wd : Int) = p + 1) := by (first | lia | omega)
    simp only [List.foldl_cons, List.foldl_nil, List.filter_cons, List.filter_nil]
    generalize mayB rows wd p (p - wd) = b1
    generalize mayB rows wd p (p - 1) = b2
    generalize mayB rows wd p (p + 1) = b3
    generalize mayB rows wd p (p + wd) = b4
    generalize p - (wd : Int) = x1 at *
    generalize p + (wd : Int) = x4 at *
    generalize p - 1 = x2 at *
    generalize p + 1 = x3 at *
    cases b1 <;> cases b2 <;> cases b3 <;> cases b4 <;> simp [n1, n2, n3, n4, n5, n6]
  · have e : wd = 1 := by (first | lia | omega)
    subst e
    rw [if_neg (by (first | lia | omega))]
    simp only [List.foldl_cons, List.foldl_nil, List.filter_cons, List.filter_nil, Int.natCast_one]
    have n3 : ¬ (p + 1 = p - 1) := by (first | lia | omega)
    generalize mayB rows 1 p (p - 1) = b2
    generalize mayB rows 1 p (p + 1) = b3
    generalize p - 1 = x2 at *
    generalize p + 1 = x3 at *
    cases b2 <;> cases b3 <;> simp [n3]
theorem mayB_symm (rows : List Str) (wd : Nat) (a c : Int) : mayB rows wd a c = mayB rows wd c a := by
  rw [mayB, mayB, Int.max_comm, Int.min_comm, Bool.and_comm (hasB rows wd c)]
theorem mayB_has {rows : List Str} {wd : Nat} {a c : Int} (h : mayB rows wd a c = true) : hasB rows wd a = true ∧ hasB rows wd c = true := by
  unfold mayB at h
  simp only [Bool.and_eq_true] at h
  exact h.1
/-- two places of a slab are one apart, or a row -/
theorem mayB_near {rows : List Str} {wd : Nat} {a c : Int} (h : mayB rows wd a c = true) : (max a c - min a c = 1 ∧ min a c / wd = max a c / wd) ∨ max a c - min a c = wd := by
  unfold mayB at h
  simp only [Bool.and_eq_true] at h
  obtain ⟨_, h⟩ := h
  split at h
  · rename_i q; exact .inl q
  · split at h
    · rename_i q; exact .inr q
    · cases h
theorem mem_gath {m : Int → Bool} {c : Int} : ∀ (xs : List Int), c ∈ gath m xs ↔ (c ∈ xs ∧ m c = true) := by
  intro xs
  suffices h : ∀ (acc : List Int), c ∈ xs.foldl (fun acc y => if y ∉ acc ∧ m y = true then acc ++ [y] else acc) acc ↔ c ∈ acc ∨ (c ∈ xs ∧ m c = true) by
    have := h []; simpa [gath] using this
  induction xs with
  | nil => intro acc; simp
  | cons x r ih =>
    intro acc
    rw [List.foldl_cons, ih]
    by_cases q : x ∉ acc ∧ m x = true
    · rw [if_pos q]
      constructor
      · rintro (h | h)
        · rcases List.mem_append.mp h with h | h
          · exact .inl h
          · rw [List.mem_singleton] at h; subst h; exact .inr ⟨List.mem_cons_self .., q.2⟩
        · exact .inr ⟨List.mem_cons_of_mem _ h.1, h.2⟩
      · rintro (h | ⟨h, h2⟩)
        · exact .inl (List.mem_append.mpr (.inl h))
        · rcases List.mem_cons.mp h with rfl | h
          · exact .inl (List.mem_append.mpr (.inr (List.mem_singleton.mpr rfl)))
          · exact .inr ⟨h, h2⟩
    · rw [if_neg q]
      constructor
      · rintro (h | h)
        · exact .inl h
        · exact .inr ⟨List.mem_cons_of_mem _ h.1, h.2⟩
      · rintro (h | ⟨h, h2⟩)
        · exact .inl h
        · rcases List.mem_cons.mp h with rfl | h
          · refine .inl ?_
            by_cases z : c ∈ acc
            · exact z
            · exact absurd ⟨z, h2⟩ q
          · exact .inr ⟨h, h2⟩
theorem mem_beside {rows : List Str} {wd : Nat} {a c : Int} : c ∈ besideL rows wd a ↔ mayB rows wd a c = true := by
  unfold besideL
  rw [mem_gath]
  refine ⟨fun h => h.2, fun h => ⟨?_, h⟩⟩
  have := mayB_near h
  unfold nearL
  simp only [List.mem_cons, List.mem_nil_iff, or_false]
  rcases Int.le_total a c with q | q
  · rw [Int.max_eq_right q, Int.min_eq_left q] at this; (first | lia | omega)
  · rw [Int.max_eq_left q, Int.min_eq_right q] at this; (first | lia | omega)
theorem gath_len (m : Int → Bool) (xs : List Int) : (gath m xs).length ≤ xs.length := by
  suffices h : ∀ (acc : List Int), (xs.foldl (fun acc y => if y ∉ acc ∧ m y = true then acc ++ [y] else acc) acc).length ≤ acc.length + xs.length by
    have := h []; simpa [gath] using this
  induction xs with
  | nil => intro acc; simp
  | cons x r ih =>
    intro acc
    rw [List.foldl_cons]
    refine Nat.le_trans (ih _) ?_
    split
    · simp <;> (first | lia | omega)
    · simp <;> (first | lia | omega)
theorem beside_len (rows : List Str) (wd : Nat) (p : Int) : (besideL rows wd p).length ≤ 4 := gath_len _ _
theorem shade_ne {rows : List Str} {wd : Nat} (g : Grid rows wd) {a c : Int} (h : mayB rows wd a c = true) : shadeN wd a ≠ shadeN wd c := by
  have h1 := hasB_in (mayB_has h).1
  have h2 := hasB_in (mayB_has h).2
  obtain ⟨hw, _⟩ := g.at_ h1.1 h1.2
  have hw2 := g.wide
  have n := mayB_near h
  unfold shadeN
  rw [if_neg (by (first | lia | omega)), if_neg (by (first | lia | omega))]
  have key : ∀ x y : Int, ((y - x = 1 ∧ x / wd = y / wd) ∨ y - x = wd) → (x / wd + x % wd) % 2 ≠ (y / wd + y % wd) % 2 := by
    intro x y h
    rcases h with ⟨h1, h2⟩ | h
    · have e1 := Int.emod_add_mul_ediv x wd
      have e2 := Int.emod_add_mul_ediv y wd
      rw [h2] at e1 ⊢
      (first | lia | omega)
    · obtain ⟨h1, h2⟩ := (div_step (by (first | lia | omega))).mp h
      (first | lia | omega)
  rcases Int.le_total a c with q | q
  · rw [Int.max_eq_right q, Int.min_eq_left q] at n
    exact key a c n
  · rw [Int.max_eq_left q, Int.min_eq_right q] at n
    exact fun e => key c a n e.symm

theorem Stk.nil {A : Around} {B h : Heap} (hf : A.frames = some []) (k : Sub B h) : Stk A B [] h := ⟨hf, trivial, k⟩

/-- all that stands is of B, or of the list -/
structure Cov (B : Heap) (Λ : List (Addr × Obj)) (h : Heap) : Prop where
  sub : Sub B h
  led : ∀ p ∈ Λ, h.get? p.1 = some p.2 ∧ B.get? p.1 = none
  nd : (Λ.map (·.1)).Nodup
  nf : ∀ p ∈ Λ, ∀ vs, p.2.data ≠ .fields vs
  all : ∀ b o, h.get? b = some o → B.get? b = some o ∨ (b, o) ∈ Λ
/-- behind a call that has caught an exception: B stands, the rest but for its slots -/
structure Land (B : Heap) (s s' : Shared) : Prop where
  same : ∃ h tk, s' = { s with heap := h, toks := tk }
  sub : Sub B s'.heap
  up : s.heap.UpToSlots s'.heap
theorem Slk.mem {Λ Λ' : List (Addr × Obj)} (x : Slk Λ Λ') {a : Addr} {o : Obj} (h : (a, o) ∈ Λ) : ∃ sl, (a, { o with slots := sl }) ∈ Λ' := by
  induction x with
  | nil => cases h
  | cons _ ih =>
    rcases List.mem_cons.mp h with e | h
    · cases e; exact ⟨_, List.mem_cons_self ..⟩
    · obtain ⟨sl, q⟩ := ih h; exact ⟨sl, List.mem_cons_of_mem _ q⟩
theorem led_of {h : Heap} : ∀ as : List Addr, (∀ a ∈ as, ∃ o, h.get? a = some o) → ∃ Λ : List (Addr × Obj), (Λ.map (·.1)).Nodup ∧ (∀ p ∈ Λ, h.get? p.1 = some p.2 ∧ p.1 ∈ as) ∧ ∀ a ∈ as, ∃ o, (a, o) ∈ Λ
  | [], _ => ⟨[], List.nodup_nil, (fun _ h => nomatch h), (fun _ h => nomatch h)⟩
  | a :: r, k => by
    obtain ⟨Λ, h1, h2, h3⟩ := led_of r fun b hb => k b (List.mem_cons_of_mem _ hb)
    by_cases q : a ∈ r
    · refine ⟨Λ, h1, fun p hp => ⟨(h2 p hp).1, List.mem_cons_of_mem _ (h2 p hp).2⟩, fun b hb => ?_⟩
      rcases List.mem_cons.mp hb with rfl | hb
      · exact h3 _ q
      · exact h3 b hb
    · obtain ⟨o, e⟩ := k a (List.mem_cons_self ..)
      refine ⟨(a, o) :: Λ, ?_, fun p hp => ?_, fun b hb => ?_⟩
      · rw [List.map_cons, List.nodup_cons]
        refine ⟨fun z => q ?_, h1⟩
        obtain ⟨p, hp, e'⟩ := List.mem_map.mp z
        have e2 : p.1 = a := e'
        rw [← e2]; exact (h2 p hp).2
      · rcases List.mem_cons.mp hp with rfl | hp
        · exact ⟨e, List.mem_cons_self ..⟩
        · exact ⟨(h2 p hp).1, List.mem_cons_of_mem _ (h2 p hp).2⟩
      · rcases List.mem_cons.mp hb with rfl | hb
        · exact ⟨o, List.mem_cons_self ..⟩
        · obtain ⟨o', z⟩ := h3 b hb; exact ⟨o', List.mem_cons_of_mem _ z⟩
section
variable {M : Model} {prog : Program} {w : World} {A : Around} {E : Value → Shared → Prop} {s s' s₀ : Shared} {h₀ B : Heap} {env : Env} {ρ : Rho} {Λ Λ₀ Λ' Λ₂ : List (Addr × Obj)} {outer : List Env} {e C : Addr} {K : Frag}
/-- what stands around a call that may catch: all but the frame's own stays -/
theorem CS.cov (S : CS true s₀ h₀ env ρ Λ s) (hd : ∀ p ∈ Λ, ∀ vs, p.2.data ≠ .fields vs) : ∃ B Λ₀, Sub h₀ B ∧ CS true s₀ B env ρ Λ s ∧ Cov B Λ₀ s.heap := by
  obtain ⟨B, k1, S1, k3⟩ := S.wide
  have hmem : ∀ a, CS.own env Λ a ↔ a ∈ env.locals :: (env.cells.filterMap (fun p => env.cells.lookup p.1) ++ Λ.map (·.1)) := fun a => by
    unfold CS.own
    rw [List.mem_cons, List.mem_append]
    refine or_congr Iff.rfl (or_congr ?_ Iff.rfl)
    rw [List.mem_filterMap]
    exact ⟨fun ⟨n, q⟩ => ⟨(n, a), mem_of_lookup q, q⟩, fun ⟨p, _, q⟩ => ⟨p.1, q⟩⟩
  obtain ⟨Λ₀, h1, h2, h3⟩ := led_of (h := s.heap) _ fun a ha => S.own_at ((hmem a).mpr ha)
  refine ⟨B, Λ₀, k1, S1, S1.base, fun p hp => ⟨(h2 p hp).1, S1.own_no ((hmem _).mpr (h2 p hp).2)⟩, h1, fun p hp vs z => ?_, fun b o q => ?_⟩
  · have ha := (h2 p hp).1
    rcases (hmem _).mpr (h2 p hp).2 with q | ⟨n, q⟩ | q
    · obtain ⟨m, ⟨o, es, ep, a, b, _⟩, _⟩ := S.ns
      rw [q, a] at ha
      cases ha; rw [b] at z; cases z
    · obtain ⟨⟨v, o, a, b⟩, _⟩ := S.cells n _ q
      rw [a] at ha; cases ha
      rw [b] at z; cases z
    · obtain ⟨p', hp', e'⟩ := List.mem_map.mp q
      have := (S.led p' hp').1
      rw [e', ha] at this
      have e2 := Option.some.inj this
      rw [e2] at z
      exact hd p' hp' vs z
  · by_cases z : CS.own env Λ b
    · right
      obtain ⟨o', q'⟩ := h3 b ((hmem b).mp z)
      have := (h2 _ q').1
      rw [q] at this; cases this
      exact q'
    · exact .inl (k3 b o q z)
theorem Cov.land (c : Cov B Λ₀ s.heap) (x : Slk Λ₀ Λ') (hm : ∀ p ∈ Λ', p ∈ Λ₂) (S : CS true s h₀ env ρ Λ₂ s') (k : Sub B h₀) : Land B s s' := by
  refine ⟨S.same, k.trans S.base, fun b o q nf => ?_⟩
  rcases c.all b o q with z | z
  · exact ⟨o.slots, S.base _ _ (k _ _ z)⟩
  · obtain ⟨sl, z'⟩ := x.mem z
    exact ⟨sl, S.atLed (hm _ z')⟩
theorem CS.land (S : CS true s₀ B env ρ Λ s) (hd : ∀ p ∈ Λ, ∀ vs, p.2.data ≠ .fields vs) (l : Land B s s') : ∃ Λ', Slk Λ Λ' ∧ CS true s₀ B env ρ Λ' s' := S.fly hd l.same l.sub l.up
/-- behind a suite that is tried -/
def ElseQ (M : Model) (A : Around) (env : Env) (E : Value → Shared → Prop) (orelse : List Stmt) (Q : Flow → Shared → Prop) (f : Flow) (s' : Shared) : Prop := match f with | .next => wpAny M A (execs orelse env) Q E s' | f => Q f s'
/-- an exception out of a suite that is tried -/
def TryE (M : Model) (A : Around) (env : Env) (hs : List ExceptHandler) (Q : Flow → Shared → Prop) (E : Value → Shared → Prop) (e : Value) (s₁ : Shared) : Prop :=
  wpAny M A (noteFrame e env) (fun _ s₂ => wpAny M A (setFlight e none) (fun _ s₃ => wpAny M A (handleBy e env hs) Q E s₃) E s₂) E s₁
theorem x_try {body orelse rest : List Stmt} {h₁ : ExceptHandler} {hs : List ExceptHandler} {pos : Pos} {Q : Flow → Shared → Prop}
    (h : wpAny (model prog w) A (execs body env) (ElseQ (model prog w) A env E orelse (SeqQ (model prog w) A env E rest Q)) (TryE (model prog w) A env (h₁ :: hs) (SeqQ (model prog w) A env E rest Q) E) s) :
    wpAny (model prog w) A (execs (.Try body (h₁ :: hs) orelse [] pos :: rest) env) Q E s :=
  wpAny_execs_cons (wpAny_Try_except (wpAny_mono h (fun f s₁ q => by cases f <;> exact q) fun _ _ q => q))
theorem CS.one {p q : Addr × Obj} (S : CS true s₀ h₀ env ρ (p :: q :: Λ) s) : CS true s₀ h₀ env ρ (p :: Λ) s := by
  have := S.lnd
  rw [List.map_cons, List.map_cons, List.nodup_cons, List.nodup_cons] at this
  refine S.forget (fun x hx => ?_) ?_
  · rcases List.mem_cons.mp hx with rfl | hx
    · exact List.mem_cons_self ..
    · exact List.mem_cons_of_mem _ (List.mem_cons_of_mem _ hx)
  · rw [List.map_cons, List.nodup_cons]
    exact ⟨fun z => this.1 (List.mem_cons_of_mem _ z), this.2.2⟩
theorem Slk.nf {Λ Λ' : List (Addr × Obj)} (x : Slk Λ Λ') (hd : ∀ p ∈ Λ, ∀ vs, p.2.data ≠ .fields vs) : ∀ p ∈ Λ', ∀ vs, p.2.data ≠ .fields vs := by
  induction x with
  | nil => exact fun _ h => nomatch h
  | cons _ ih =>
    intro p hp
    rcases List.mem_cons.mp hp with rfl | hp
    · exact fun vs z => hd (_, _) (List.mem_cons_self ..) vs z
    · exact ih (fun q hq => hd q (List.mem_cons_of_mem _ hq)) p hp
end
end Fl

namespace Fl
open PySem PySem.W PySem.Calls PyProof.Rows

section
variable {prog : Program} {w : World} {A : Around} {E : Value → Shared → Prop} {s s₀ : Shared} {h₀ : Heap} {env : Env} {ρ ρ' : Rho} {Λ Λ' : List (Addr × Obj)} {b : Bool} {K : Frag}

/-- an iterator just made, whose objects stand throughout -/
def ItX (prog : Program) (w : World) (A : Around) (s₀ : Shared) (h₀ : Heap) (env : Env) (ρ : Rho) (Λ : List (Addr × Obj)) (n : Nat) (P : Nat → Value → Prop) (it : Value) (s : Shared) : Prop :=
  ∃ I fp wr St, it = .ref I ∧ Walks prog w A I fp wr n P St ∧ St 0 s.heap ∧ (∀ a ∈ wr, h₀.get? a = none) ∧ (∀ a ∈ fp, ¬ CS.own env Λ a) ∧ (∀ i h, St i h → ∀ a ∈ fp, ∃ o, h.get? a = some o) ∧ CS true s₀ h₀ env ρ Λ s
theorem itx_list {l : Addr} {ys : Array Value} {o : Obj} {Q : Value → Shared → Prop} (S : CS true s₀ h₀ env ρ Λ s) (hh : A.handled = none) (ho : h₀.get? l = some o) (hl : o.cls = .type "list") (hd : ∃ n, o.data = .seq ys n)
    (h : ∀ it s', ItX prog w A s₀ h₀ env ρ Λ ys.size (fun i v => ys[i]? = some v) it s' → Q it s') : wpAny (model prog w) A (pyIter (.ref l)) Q E s := by
  have hL : s.heap.IsList l ys := ⟨o, S.atBase ho, hl, hd⟩
  have hlt : l < s.heap.objs.size := Heap.lt_size (S.atBase ho)
  refine wpAny_pyIter_list hL (h _ _ ⟨s.heap.objs.size, _, _, _, rfl, Walks.list hh _ l (Nat.ne_of_lt hlt) ys, ⟨⟨_, Heap.get?_push_size _ rfl, rfl, rfl⟩, hL.at fun o e => Heap.get?_push_of_some _ e⟩, ?_, ?_, ?_, S.pushK _ _⟩)
  · intro a ha
    rw [List.mem_singleton.mp ha]
    exact S.base.none (fresh_none (Nat.le_refl _))
  · intro a ha ho'
    rcases List.mem_cons.mp ha with rfl | ha
    · obtain ⟨o', q⟩ := S.own_at ho'
      exact absurd (Heap.lt_size q) (Nat.lt_irrefl _)
    · rw [List.mem_singleton.mp ha] at ho'
      rw [S.own_no ho'] at ho; cases ho
  · rintro i h' ⟨⟨o1, e1, _⟩, ⟨o2, e2, _⟩⟩ a ha
    rcases List.mem_cons.mp ha with rfl | ha
    · exact ⟨o1, e1⟩
    · rw [List.mem_singleton.mp ha]; exact ⟨o2, e2⟩
/-- a for loop between whose turns the changed objects may become others -/
theorem loop_itx {body : List Stmt} {x : Str} {px : Pos} {n : Nat} {P : Nat → Value → Prop} {it : Value} {Q : Flow → Shared → Prop} (J : Nat → Rho → List (Addr × Obj) → Prop) (I : ItX prog w A s₀ h₀ env ρ Λ n P it s) (hJ : J 0 ρ Λ)
    (turn : ∀ i v ρ₁ Λ₁, i < n → P i v → J i ρ₁ Λ₁ → ∃ ρ₂, Put x v ρ₁ ρ₂ ∧ ∀ h₁ s₁, Sub h₀ h₁ → CS true s₀ h₁ env ρ₂ Λ₁ s₁ → ∀ Q' : Flow → Shared → Prop,
      (∀ h' ρ' Λ' s₂, Sub h₁ h' → CS true s₀ h' env ρ' Λ' s₂ → J (i + 1) ρ' Λ' → Q' .next s₂) → (∀ v s₂, Q (.ret v) s₂ → Q' (.ret v) s₂) → wpAny (model prog w) A (execs body env) Q' (NoteE (model prog w) A env E) s₁)
    (done : ∀ ρ' Λ' s', J n ρ' Λ' → CS true s₀ h₀ env ρ' Λ' s' → Q .next s') :
    codeAny (model prog w) A (.forLoop (.Name x px) it body [] env) (fun r s' => match r with | .ok f => Q f s' | .error e => cameBackBy (model prog w) A env E e s') s := by
  obtain ⟨I, fp, wr, St, rfl, W, hst, hwr, hfp, hex, S⟩ := I
  refine codeAny_forLoop_any (fun k s' => ∃ i ρ' Λ', k = n - i ∧ i ≤ n ∧ J i ρ' Λ' ∧ CS true s₀ h₀ env ρ' Λ' s' ∧ St i s'.heap ∧ ∀ a ∈ fp, ¬ CS.own env Λ' a) ?_ n ⟨0, ρ, Λ, rfl, Nat.zero_le _, hJ, S, hst, hfp⟩
  rintro k s' ⟨i, ρ', Λ', rfl, hi, hJ', S', st', off⟩
  have off2 : ∀ a ∈ wr, ¬ CS.own env Λ' a := fun a ha => off a (W.sub a ha)
  by_cases hlt : i < n
  · refine W.item i s' _ _ hlt st' fun v h' tk hP st₁ hk => ?_
    have S₁ : CS true s₀ h₀ env ρ' Λ' { s' with heap := h', toks := tk } := S'.but hk hwr off2
    obtain ⟨h₁, k1, S₂, k3⟩ := S₁.wide
    obtain ⟨ρ₂, hput, hbody⟩ := turn i v ρ' Λ' hlt hP hJ'
    refine wpAny_of_eq (rfl : letOwnedTupleGo (.Name x px) (.ref I) v = pure ()) (wpAny_assign_Name (S₂.put hput fun s₁ S₃ => ?_))
    have nx : ∀ s₂, (∃ h' ρ' Λ', Sub h₁ h' ∧ CS true s₀ h' env ρ' Λ' s₂ ∧ J (i + 1) ρ' Λ') → ∃ m, m < n - i ∧ ∃ i ρ' Λ', m = n - i ∧ i ≤ n ∧ J i ρ' Λ' ∧ CS true s₀ h₀ env ρ' Λ' s₂ ∧ St i s₂.heap ∧ ∀ a ∈ fp, ¬ CS.own env Λ' a := by
      rintro s₂ ⟨h2, ρ3, Λ3, k4, S4, hJ4⟩
      refine ⟨n - (i + 1), by (first | lia | omega), i + 1, ρ3, Λ3, rfl, hlt, hJ4, S4.drop (k1.trans k4), W.frame _ _ _ st₁ fun a ha o e => ?_, fun a ha q => ?_⟩
      · exact S4.base _ _ (k4 _ _ (k3 a o e (off a ha)))
      · obtain ⟨o, e⟩ := hex _ _ st₁ a ha
        have := k4 _ _ (k3 a o e (off a ha))
        rw [S4.own_no q] at this; cases this
    exact hbody h₁ s₁ k1 S₃ _ (fun h' ρ' Λ' s₂ a b c => nx s₂ ⟨h', ρ', Λ', a, b, c⟩) fun v s₂ z => z
  · have hin : i = n := by (first | lia | omega)
    subst hin
    refine W.done s' _ _ st' fun h' tk hk => ?_
    exact wpAny_execs_nil (done _ _ _ hJ' (S'.but hk hwr off2))

-- slices
def SliceQ (prog : Program) (w : World) (A : Around) (E : Value → Shared → Prop) (o l u : Value) (Q : Value → Shared → Prop) (s₃ : Shared) : Prop :=
  ItemOn (model prog w) A E o (.ref s₃.heap.objs.size) Q { s₃ with heap := s₃.heap.push { cls := .type "slice", data := .fields #[l, u, .none] } }
theorem sl_ {value : Expr} {lower upper : Option Expr} {p pos : Pos} {Q : Value → Shared → Prop}
    (h : wpAny (model prog w) A (eval value env) (fun o s₁ => wpAny (model prog w) A (evalPart lower env) (fun l s₂ => wpAny (model prog w) A (evalPart upper env) (fun u s₃ => SliceQ prog w A E o l u Q s₃) E s₂) E s₁) E s)
    (ht : ∀ o r, letTemporaryGo value o r = pure ()) : wpAny (model prog w) A (eval (.Subscript value (.Slice lower upper none p) pos) env) Q E s :=
  Subscript_Slice (wpAny_mono h (fun o s₁ h₁ => wpAny_Slice (wpAny_mono h₁ (fun l s₂ h₂ => wpAny_mono h₂ (fun u s₃ h₃ => by rw [evalPart_none]; exact wpAny_pure h₃) fun _ _ e => e) fun _ _ e => e)) fun _ _ e => e) ht
theorem part_none {M : Model} {Q : Value → Shared → Prop} (h : Q .none s) : wpAny M A (evalPart none env) Q E s := wpAny_pure h
theorem part_some {M : Model} {e : Expr} {Q : Value → Shared → Prop} (h : wpAny M A (eval e env) Q E s) : wpAny M A (evalPart (some e) env) Q E s := h
theorem sl_list {a : Addr} {items : Array Value} {k : Nat} {l u : Value} {lo hi : Option Int} {Q : Value → Shared → Prop} (S : CS b s₀ h₀ env ρ Λ s) (hl : s.heap.get? a = some (lst items k)) (pl : IsPart l lo) (pu : IsPart u hi) (hn : items.size ≤ 16777216)
    (h : ∀ D s', CS b s₀ h₀ env ρ ((D, lst (slicePick items lo hi none) 0) :: Λ) s' → s.heap.get? D = none → Q (.ref D) s') : SliceQ prog w A E (.ref a) l u Q s := by
  have hL : s.heap.IsList a items := ⟨_, hl, rfl, _, rfl⟩
  have S1 := S.pushK { cls := .type "slice", data := .fields #[l, u, .none] } s.toks
  refine ⟨"list", _, list_getitem_lookup, Heap.IsList.typeIs (s := { s with heap := s.heap.push { cls := .type "slice", data := .fields #[l, u, .none] } }) (hL.push _), wpAny_getItem_list_slice (hL.push _) (Heap.IsSliceOf.new ..) pl pu .none (by simp) (h _ _ (S1.pushL _ _ rfl) (fresh_none ?_)) (by rw [sizeLine_eq]; exact hn)⟩
  show s.heap.objs.size ≤ (s.heap.push _).objs.size
  rw [Heap.size_push]; exact Nat.le_succ _
end
section
variable {prog : Program} {w : World} {A : Around} {E : Value → Shared → Prop} {s s₀ : Shared} {h₀ : Heap} {env : Env} {ρ ρ' : Rho} {Λ Λ' : List (Addr × Obj)} {b : Bool} {K : Frag}
end
end Fl

namespace Fl
open PySem PySem.W PySem.Calls PyProof.Rows

/-- a dict by ints, as a list of pairs -/
abbrev Mp (α : Type) := List (Int × α)
def mget {α : Type} (m : Mp α) (k : Int) : Option α := (m.find? fun p => p.1 = k).map (·.2)
def mput {α : Type} (m : Mp α) (k : Int) (a : α) : Mp α := if m.any (fun p => p.1 = k) then m.map (fun p => if p.1 = k then (p.1, a) else p) else m ++ [(k, a)]
def mdel {α : Type} (m : Mp α) (k : Int) : Mp α := m.filter fun p => decide (p.1 ≠ k)
inductive Prs {α : Type} (Rv : α → Value → Prop) : List (Int × Value) → Mp α → Prop
  | nil : Prs Rv [] []
  | cons {k a x r m} : Rv a x → Prs Rv r m → Prs Rv ((k, x) :: r) ((k, a) :: m)
section
variable {α : Type} {Rv : α → Value → Prop} {kvs : List (Int × Value)} {m : Mp α}
theorem Prs.keys (h : Prs Rv kvs m) : kvs.map (·.1) = m.map (·.1) := by
  induction h with
  | nil => rfl
  | cons _ _ ih => simp only [List.map_cons, ih]
theorem Prs.length (h : Prs Rv kvs m) : kvs.length = m.length := by
  induction h with
  | nil => rfl
  | cons _ _ ih => simp only [List.length_cons, ih]
theorem Prs.get (h : Prs Rv kvs m) (k : Int) : (∃ x a, valueAt kvs k = some x ∧ mget m k = some a ∧ Rv a x) ∨ (valueAt kvs k = none ∧ mget m k = none) := by
  induction h with
  | nil => exact .inr ⟨rfl, rfl⟩
  | @cons k' a x r m' hx _ ih =>
    by_cases q : k' = k
    · exact .inl ⟨x, a, by simp [valueAt, q], by simp [mget, q], hx⟩
    · simpa [valueAt, mget, q] using ih
theorem Prs.isSome (h : Prs Rv kvs m) (k : Int) : (valueAt kvs k).isSome = (mget m k).isSome := by
  rcases h.get k with ⟨x, a, e1, e2, _⟩ | ⟨e1, e2⟩ <;> rw [e1, e2] <;> rfl
theorem Prs.any (h : Prs Rv kvs m) (k : Int) : (kvs.any fun p => p.1 = k) = (m.any fun p => p.1 = k) := by
  induction h with
  | nil => rfl
  | cons _ _ ih => simp only [List.any_cons, ih]
theorem Prs.append {kvs' : List (Int × Value)} {m' : Mp α} (h : Prs Rv kvs m) (h' : Prs Rv kvs' m') : Prs Rv (kvs ++ kvs') (m ++ m') := by
  induction h with
  | nil => exact h'
  | cons hx _ ih => exact .cons hx ih
theorem Prs.put (h : Prs Rv kvs m) (k : Int) {a : α} {x : Value} (hx : Rv a x) : Prs Rv (stored kvs k x) (mput m k a) := by
  unfold stored mput
  rw [h.any k]
  split
  · rename_i hq
    clear hq
    induction h with
    | nil => exact .nil
    | cons hy _ ih =>
      simp only [List.map_cons]
      split
      · exact .cons hx ih
      · exact .cons hy ih
  · exact h.append (.cons hx .nil)
theorem Prs.del (h : Prs Rv kvs m) (k : Int) : Prs Rv (PySem.without kvs k) (mdel m k) := by
  unfold PySem.without mdel
  induction h with
  | nil => exact .nil
  | @cons k' _ _ _ _ hy _ ih =>
    by_cases q : k' = k
    · simpa [List.filter_cons, q] using ih
    · simp only [List.filter_cons, ne_eq, q, not_false_eq_true, decide_true, if_true]
      exact .cons hy ih
end

/-- a dict object by ints -/
def DG (prog : Program) (w : World) {α : Type} (Rv : α → Value → Prop) (o : Obj) (m : Mp α) : Prop := ∃ kvs, o.IsDictOf (intKind prog w) kvs ∧ Prs Rv kvs m
def RInt (a : Int) (x : Value) : Prop := ∃ t, x = .int a t
theorem DG.nodup {prog : Program} {w : World} {α : Type} {Rv : α → Value → Prop} {o : Obj} {m : Mp α} (h : DG prog w Rv o m) : (m.map (·.1)).Nodup := by
  obtain ⟨kvs, ⟨_, _, _, _, _, _, nd⟩, p⟩ := h
  rw [← p.keys]; exact nd
section
variable {prog : Program} {w : World} {A : Around} {E : Value → Shared → Prop} {s s₀ : Shared} {h₀ : Heap} {env : Env} {ρ ρ' : Rho} {Λ Λ' : List (Addr × Obj)} {b : Bool} {K : Frag} {α : Type} {Rv : α → Value → Prop} {m : Mp α} {d : Addr} {od : Obj} {k : Int} {tk : Tok}
theorem DG.at (h : DG prog w Rv od m) (e : s.heap.get? d = some od) : ∃ kvs, s.heap.DictOf (intKind prog w) d kvs ∧ Prs Rv kvs m := by
  obtain ⟨kvs, a, b⟩ := h
  exact ⟨kvs, Heap.dictOf_iff.mpr ⟨od, e, a⟩, b⟩
theorem d_new {pos : Pos} {Q : Value → Shared → Prop} (S : CS b s₀ h₀ env ρ Λ s) (h : ∀ D od s', (∀ (α : Type) (Rv : α → Value → Prop), DG prog w Rv od []) → CS b s₀ h₀ env ρ ((D, od) :: Λ) s' → s.heap.get? D = none → D = s.heap.objs.size → Q (.ref D) s') : wpAny (model prog w) A (eval (.Dict [] [] pos) env) Q E s := by
  refine wpAny_Dict_empty (h _ _ _ (fun α Rv => ⟨[], ?_, .nil⟩) (S.pushL _ s.toks rfl) (fresh_none (Nat.le_refl _)) rfl)
  obtain ⟨o, ho, hd⟩ := Heap.dictOf_iff.mp (Heap.DictOf.new (knd := intKind prog w) s.heap)
  rw [Heap.get?_push_size _ rfl] at ho
  cases ho
  exact hd
theorem d_in {Q : Value → Shared → Prop} (S : CS b s₀ h₀ env ρ Λ s) (e : s.heap.get? d = some od) (D : DG prog w Rv od m) (hd : (d == sysModules) = false) (h : ∀ s', CS b s₀ h₀ env ρ Λ s' → Q (.bool (mget m k).isSome) s') : wpAny (model prog w) A (compareOp .In (.int k tk) (.ref d)) Q E s := by
  obtain ⟨kvs, x, p⟩ := D.at e
  refine wpAny_in_of (knd := intKind prog w) (intKind_is ..) hd x.mapOf ?_
  rw [p.isSome]
  exact h _ (S.tok _)
theorem d_notin {Q : Value → Shared → Prop} (S : CS b s₀ h₀ env ρ Λ s) (e : s.heap.get? d = some od) (D : DG prog w Rv od m) (hd : (d == sysModules) = false) (h : ∀ s', CS b s₀ h₀ env ρ Λ s' → Q (.bool (!(mget m k).isSome)) s') : wpAny (model prog w) A (compareOp .NotIn (.int k tk) (.ref d)) Q E s := by
  obtain ⟨kvs, x, p⟩ := D.at e
  refine wpAny_notIn_of (knd := intKind prog w) (intKind_is ..) hd x.mapOf ?_
  rw [p.isSome]
  exact h _ (S.tok _)
theorem d_at {value slice : Expr} {a : α} {Q : Value → Shared → Prop} (S : CS b s₀ h₀ env ρ Λ s) (e : s.heap.get? d = some od) (D : DG prog w Rv od m) (hk : mget m k = some a)
    (hs : subscripted slice false (.ref d) (.int k tk) = operate [.ref d, .int k tk] (getItem (.ref d) (.int k tk))) (h : ∀ x s', Rv a x → CS b s₀ h₀ env ρ Λ s' → Q x s') : wpAny (model prog w) A (subscriptTail value slice (.ref d) (.int k tk)) Q E s := by
  obtain ⟨kvs, x, p⟩ := D.at e
  rcases p.get k with ⟨y, a', e1, e2, r⟩ | ⟨_, e2⟩
  · rw [hk] at e2; cases e2
    exact tail_any x.typeIs slot_dict_getitem.lookup (wpAny_getItem_of (knd := intKind prog w) (intKind_is ..) x.mapOf e1 (h y _ r (S.tok _))) hs
  · rw [hk] at e2; cases e2
theorem x_setitem {o i value : Expr} {pos' pos : Pos} {rest : List Stmt} {M : Model} {Q : Flow → Shared → Prop}
    (h : wpAny M A (eval value env) (fun v s₁ => wpAny M A (eval o env) (fun ov s₂ => wpAny M A (eval i env) (fun iv s₃ => wpAny M A (setItem ov iv v) (fun _ s₄ => wpAny M A (execs rest env) Q E s₄) E s₃) E s₂) E s₁) E s)
    (hs : swapsWith value (some (.Subscript o i pos')) pos.line env = pure false) : wpAny M A (execs (.Assign [.Subscript o i pos'] value pos :: rest) env) Q E s :=
  wpAny_execs_cons (wpAny_Assign_Subscript h hs)
theorem CS.chgD {g : Obj → List (Addr × Obj)} {h' : Heap} {tk' : Nat} (S : CS true s₀ h₀ env ρ Λ s) (U : ChgF d od Λ g) (hs : Heap.SameBut d s.heap h') {od' : Obj} (ho : h'.get? d = some od') : CS true s₀ h₀ env ρ (g od') { s with heap := h', toks := tk' } :=
  S.chg (U.to _) (fun c x hc q => hs.extBut c x hc q) ho
theorem d_set {g : Obj → List (Addr × Obj)} {a : α} {x : Value} {Q : Unit → Shared → Prop} (S : CS true s₀ h₀ env ρ Λ s) (U : ChgF d od Λ g) (D : DG prog w Rv od m) (hx : Rv a x) (hn : m.length ≤ 16777216)
    (h : ∀ od' s', DG prog w Rv od' (mput m k a) → CS true s₀ h₀ env ρ (g od') s' → Q () s') : wpAny (model prog w) A (setItem (.ref d) (.int k tk) x) Q E s := by
  obtain ⟨kvs, y, p⟩ := D.at (S.atLed (U.to od).mem)
  refine wpAny_setItem_pairs (knd := intKind prog w) (intKind_is ..) y (fun h' y' hs => ?_) (by rw [p.length, sizeLine_eq]; exact hn)
  obtain ⟨o', ho', hd'⟩ := Heap.dictOf_iff.mp y'
  exact h o' _ ⟨_, hd', p.put k hx⟩ (S.chgD U hs ho')
theorem d_pop {g : Obj → List (Addr × Obj)} {a : α} {Q : Value → Shared → Prop} (S : CS true s₀ h₀ env ρ Λ s) (U : ChgF d od Λ g) (D : DG prog w Rv od m) (hk : mget m k = some a) (hn : m.length ≤ 16777216)
    (h : ∀ x od' s', Rv a x → DG prog w Rv od' (mdel m k) → CS true s₀ h₀ env ρ (g od') s' → Q x s') : wpAny (model prog w) A (call (.builtin "dict.pop") [.ref d, .int k tk]) Q E s := by
  obtain ⟨kvs, y, p⟩ := D.at (S.atLed (U.to od).mem)
  rcases p.get k with ⟨x, a', e1, e2, r⟩ | ⟨_, e2⟩
  · rw [hk] at e2; cases e2
    refine call_meetsIn F.slot_dict_pop y.typeIs F.entry_dict_pop (F.args_dict_pop_2 _ _) (meets_dict_pop_there (intKind prog w) d (intKind_is ..) [] (.inl rfl) rfl) ⟨kvs, x, y, by rw [p.length, sizeLine_eq]; exact hn, e1, fun h' y' hs => ?_⟩
    obtain ⟨o', ho', hd'⟩ := Heap.dictOf_iff.mp y'
    exact h x o' _ r ⟨_, hd', p.del k⟩ (S.chgD U hs ho')
  · rw [hk] at e2; cases e2
theorem d_len {Q : Value → Shared → Prop} (S : CS b s₀ h₀ env ρ Λ s) (e : s.heap.get? d = some od) (D : DG prog w Rv od m) (hd : (d == sysModules) = false) (hn : m.length ≤ 16777216) (h : ∀ t s', CS b s₀ h₀ env ρ Λ s' → Q (.int m.length t) s') : wpAny (model prog w) A (call (.builtin "len") [.ref d]) Q E s := by
  obtain ⟨kvs, x, p⟩ := D.at e
  refine call_len_dict hd x (by rw [p.length]; (first | lia | omega)) ?_
  rw [p.length]
  exact h _ _ (S.tok _)
/-- a method of a dict -/
theorem m_dict {name : Str} {id : String} {pl : Sem Bool} {Q : Value × List Value → Shared → Prop} (e : s.heap.get? d = some od) (D : DG prog w Rv od m) (slot : Slot "dict" name id) (hty : typeOf (.builtin id) = pure (.type "method_descriptor"))
    (h : Q (.builtin id, [.ref d]) s) : wpAny (model prog w) A (getMethod (.ref d) name pl) Q E s := by
  obtain ⟨kvs, x, p⟩ := D.at e
  exact getMethod_builtin x.typeIs PySem.F.plainAttrs_dict slot hty x.mapOf.noDict h
/-- dict(d) -/
theorem d_copy {Q : Value → Shared → Prop} (S : CS true s₀ h₀ env ρ Λ s) (e : s.heap.get? d = some od) (D : DG prog w Rv od m) (hd : (d == sysModules) = false) (hn : m.length ≤ 16777216)
    (h : ∀ D' od' s', DG prog w Rv od' m → CS true s₀ h₀ env ρ ((D', od') :: Λ) s' → s.heap.get? D' = none → D' = s.heap.objs.size → Q (.ref D') s') : wpAny (model prog w) A (call (.type "dict") [.ref d]) Q E s := by
  obtain ⟨kvs, x, p⟩ := D.at e
  refine kt_call_dict hd x (by rw [p.length, sizeLine_eq]; exact hn) fun h' y hs => ?_
  obtain ⟨o', ho', hd'⟩ := Heap.dictOf_iff.mp y
  refine h _ o' _ ⟨_, hd', p⟩ (S.new (wr := []) (tk := s.toks) rfl (fun c o _ q => ?_) (fun _ h => nomatch h) (fun _ h => nomatch h) (fresh_none (Nat.le_refl _)) ho') (fresh_none (Nat.le_refl _)) rfl
  exact hs.extBut c o (Nat.ne_of_lt (Heap.lt_size q)) (Heap.get?_push_of_some _ q)
end
end Fl

namespace Fl
open PySem
-- layings, and how few cells stay bare: no program here
theorem mget_append {α : Type} (m n : Mp α) (k : Int) : mget (m ++ n) k = (mget m k).or (mget n k) := by
  unfold mget
  rw [List.find?_append]
  cases m.find? (fun p => decide (p.1 = k)) <;> rfl
theorem mget_isSome {α : Type} {m : Mp α} {k : Int} : (mget m k).isSome = m.any (fun p => p.1 = k) := by
  unfold mget
  rw [Option.isSome_map, List.isSome_find?]
theorem mget_mem {α : Type} {m : Mp α} {k : Int} {a : α} (h : mget m k = some a) : (k, a) ∈ m := by
  unfold mget at h
  rw [Option.map_eq_some_iff] at h
  obtain ⟨p, hp, rfl⟩ := h
  have h1 := List.mem_of_find?_eq_some hp
  have h2 : p.1 = k := by have := List.find?_some hp; simpa using this
  rw [← h2]; exact h1
theorem mget_none_iff {α : Type} {m : Mp α} {k : Int} : mget m k = none ↔ k ∉ m.map (·.1) := by
  unfold mget
  rw [Option.map_eq_none_iff, List.find?_eq_none]
  simp only [decide_eq_true_eq, List.mem_map, not_exists, not_and]
theorem mget_of_mem {α : Type} : ∀ {m : Mp α} {k : Int} {a : α}, (m.map (·.1)).Nodup → (k, a) ∈ m → mget m k = some a
  | (k', a') :: r, k, a, nd, h => by
    rw [List.map_cons, List.nodup_cons] at nd
    rcases List.mem_cons.mp h with e | h
    · cases e; simp [mget]
    · have : k' ≠ k := fun q => nd.1 (List.mem_map.mpr ⟨(k, a), h, q.symm⟩)
      have ih := mget_of_mem nd.2 h
      unfold mget at ih ⊢
      rw [List.find?_cons]
      simp only [this, decide_false]
      exact ih
theorem mget_mput {α : Type} (m : Mp α) (k x : Int) (a : α) : mget (mput m k a) x = if x = k then some a else mget m x := by
  unfold mput
  split
  · rename_i h
    induction m with
    | nil => cases h
    | cons p r ih =>
      by_cases q : p.1 = k
      · by_cases z : x = k
        · simp [mget, q, z]
        · have zq : ¬ p.1 = x := fun e => z (e ▸ q)
          have zk : ¬ k = x := fun e => z e.symm
          by_cases hr : r.any (fun p => decide (p.1 = k)) = true
          · have := ih hr
            simp only [mget, List.map_cons, q, if_true, List.find?_cons, zk, decide_false, if_neg z] at this ⊢
            exact this
          · have : r.map (fun p => if p.1 = k then (p.1, a) else p) = r := by
              refine (List.map_congr_left (g := id) fun p hp => ?_).trans (List.map_id r)
              have : ¬ p.1 = k := fun e => hr (List.any_eq_true.mpr ⟨p, hp, decide_eq_true e⟩)
              simp [this]
            rw [List.map_cons, this]
            simp [mget, q, zk, z]
      · have hr : r.any (fun p => decide (p.1 = k)) = true := by
          rw [List.any_cons] at h
          simpa [q] using h
        have := ih hr
        by_cases z : p.1 = x
        · have : ¬ x = k := fun e => q (z.trans e)
          simp [mget, q, z, this]
        · simp only [mget, List.map_cons, q, if_false, List.find?_cons, z, decide_false] at this ⊢
          exact this
  · rename_i h
    rw [mget_append]
    have hk : mget m k = none := by
      cases e : mget m k with
      | none => rfl
      | some b => exact absurd (by rw [← mget_isSome, e]; rfl) h
    by_cases z : x = k
    · rw [if_pos z, z, hk]; simp [mget]
    · have zk : ¬ k = x := fun e => z e.symm
      rw [if_neg z]
      cases mget m x <;> simp [mget, zk]
theorem mget_mdel {α : Type} (m : Mp α) (k x : Int) : mget (mdel m k) x = if x = k then none else mget m x := by
  unfold mdel
  induction m with
  | nil => simp [mget]
  | cons p r ih =>
    by_cases q : p.1 = k
    · rw [List.filter_cons]
      simp only [ne_eq, q, not_true, decide_false, Bool.false_eq_true, if_false]
      rw [ih]
      by_cases z : x = k
      · rw [if_pos z, if_pos z]
      · rw [if_neg z, if_neg z]
        have zq : ¬ p.1 = x := fun e => z (e.symm.trans q)
        simp [mget, zq]
    · rw [List.filter_cons]
      simp only [ne_eq, q, not_false_eq_true, decide_true, if_true]
      by_cases z : p.1 = x
      · have : ¬ x = k := fun e => q (z.trans e)
        simp [mget, z, this]
      · have e1 : mget (p :: r.filter fun p => decide (p.1 ≠ k)) x = mget (r.filter fun p => decide (p.1 ≠ k)) x := by simp [mget, z]
        have e2 : mget (p :: r) x = mget r x := by simp [mget, z]
        rw [e1, e2]; exact ih
theorem mput_keys {α : Type} {m : Mp α} (nd : (m.map (·.1)).Nodup) (k : Int) (a : α) : ((mput m k a).map (·.1)).Nodup := by
  unfold mput
  split
  · have : (m.map (fun p => if p.1 = k then (p.1, a) else p)).map (·.1) = m.map (·.1) := by
      rw [List.map_map]
      apply List.map_congr_left
      intro p _
      show (if p.1 = k then (p.1, a) else p).1 = p.1
      split <;> rfl
    rw [this]; exact nd
  · rename_i h
    rw [List.map_append, List.nodup_append]
    refine ⟨nd, by simp, fun x hx y hy e => ?_⟩
    simp at hy
    subst hy; subst e
    obtain ⟨p, hp, q⟩ := List.mem_map.mp hx
    exact h (List.any_eq_true.mpr ⟨p, hp, decide_eq_true q⟩)
theorem mdel_keys {α : Type} {m : Mp α} (nd : (m.map (·.1)).Nodup) (k : Int) : ((mdel m k).map (·.1)).Nodup := by
  unfold mdel
  exact nd.sublist (List.Sublist.map _ List.filter_sublist)

/-- which two cells a slab may cover, and the shades -/
structure Gph (may : Int → Int → Bool) (sh : Int → Int) : Prop where
  symm : ∀ a c, may a c = may c a
  shade : ∀ a c, may a c = true → sh a ≠ sh c
  two : ∀ a, sh a = 0 ∨ sh a = 1
/-- a laying: every covered cell with the other cell of its slab -/
structure LayM (may : Int → Int → Bool) (m : Mp Int) : Prop where
  nd : (m.map (·.1)).Nodup
  inv : ∀ k v, mget m k = some v → mget m v = some k ∧ may k v = true
theorem LayM.nil (may : Int → Int → Bool) : LayM may [] := ⟨List.nodup_nil, fun _ _ h => by simp [mget] at h⟩
theorem Gph.ne {may : Int → Int → Bool} {sh : Int → Int} (g : Gph may sh) {a c : Int} (h : may a c = true) : a ≠ c := fun e => g.shade a c h (by rw [e])
theorem LayM.put {may : Int → Int → Bool} {sh : Int → Int} {m : Mp Int} (g : Gph may sh) (L : LayM may m) {a c : Int} (h : may a c = true) (ha : mget m a = none) (hc : mget m c = none) : LayM may (mput (mput m a c) c a) := by
  have hne := g.ne h
  refine ⟨mput_keys (mput_keys L.nd _ _) _ _, fun k v q => ?_⟩
  rw [mget_mput, mget_mput] at q
  by_cases k1 : k = c
  · rw [if_pos k1] at q
    cases q
    subst k1
    refine ⟨?_, by rw [g.symm]; exact h⟩
    rw [mget_mput, mget_mput, if_neg hne, if_pos rfl]
  · rw [if_neg k1] at q
    by_cases k2 : k = a
    · rw [if_pos k2] at q
      cases q
      subst k2
      refine ⟨?_, h⟩
      rw [mget_mput, if_pos rfl]
    · rw [if_neg k2] at q
      obtain ⟨r1, r2⟩ := L.inv k v q
      refine ⟨?_, r2⟩
      have v1 : v ≠ c := fun e => by rw [e, hc] at r1; cases r1
      have v2 : v ≠ a := fun e => by rw [e, ha] at r1; cases r1
      rw [mget_mput, mget_mput, if_neg v1, if_neg v2]; exact r1
theorem LayM.lift {may : Int → Int → Bool} {m : Mp Int} (L : LayM may m) {a c : Int} (h : mget m a = some c) : LayM may (mdel (mdel m a) c) := by
  obtain ⟨h1, _⟩ := L.inv a c h
  refine ⟨mdel_keys (mdel_keys L.nd _) _, fun k v q => ?_⟩
  rw [mget_mdel, mget_mdel] at q
  by_cases k1 : k = c
  · rw [if_pos k1] at q; cases q
  · rw [if_neg k1] at q
    by_cases k2 : k = a
    · rw [if_pos k2] at q; cases q
    · rw [if_neg k2] at q
      obtain ⟨r1, r2⟩ := L.inv k v q
      refine ⟨?_, r2⟩
      have v1 : v ≠ c := fun e => by rw [e, h1] at r1; cases r1; exact k2 rfl
      have v2 : v ≠ a := fun e => by rw [e, h] at r1; cases r1; exact k1 rfl
      rw [mget_mdel, mget_mdel, if_neg v1, if_neg v2]; exact r1

def bareL (m : Mp Int) (L : List Int) : List Int := L.filter fun c => (mget m c).isNone
theorem filter_len {b : Int} {r : List Int} (h : b ∈ r) : (r.filter fun x => x != b).length < r.length := by
  apply List.length_filter_lt_length_iff_exists.mpr
  exact ⟨b, h, by simp⟩
-- what is reached, and the way back
section
variable {may : Int → Int → Bool} {sh : Int → Int} {z : Int} {m : Mp Int} {F : Mp (Option Int)}
end
-- a laying turned along a way
section
variable {may : Int → Int → Bool} {sh : Int → Int} {m : Mp Int} {P : List Int}
/-- the way's cells let go, up to the i-th -/
structure Off (may : Int → Int → Bool) (m : Mp Int) (P W : List Int) (i : Nat) (m' : Mp Int) : Prop where
  lay : LayM may m'
  out : ∀ x, x ∉ P → mget m' x = mget m x
  off : ∀ x ∈ W.take i, mget m' x = none
theorem Off.next {W : List Int} {i : Nat} {m' : Mp Int} {x : Int} (o : Off may m P W i m') (hx : W[i]? = some x) (hn : mget m' x = none) : Off may m P W (i + 1) m' := by
  refine ⟨o.lay, o.out, fun y hy => ?_⟩
  rw [List.take_add_one, hx] at hy
  rcases List.mem_append.mp hy with q | q
  · exact o.off y q
  · simp at q; rw [q]; exact hn
theorem Off.lift {W : List Int} {i : Nat} {m' : Mp Int} {x v : Int} (L : LayM may m) (cl : ∀ x ∈ P, ∀ v, mget m x = some v → v ∈ P) (hW : ∀ x ∈ W, x ∈ P) (o : Off may m P W i m') (hx : W[i]? = some x) (hv : mget m' x = some v) : Off may m P W (i + 1) (mdel (mdel m' x) v) := by
  have hxP := hW x (List.mem_of_getElem? hx)
  have hvP : v ∈ P := by
    cases Classical.em (v ∈ P) with
    | inl q => exact q
    | inr q =>
      have h1 := (o.lay.inv x v hv).1
      rw [o.out v q] at h1
      exact absurd (cl x hxP v (L.inv v x h1).1) q
  refine ⟨o.lay.lift hv, fun y hy => ?_, fun y hy => ?_⟩
  · have y1 : y ≠ v := fun e => hy (e ▸ hvP)
    have y2 : y ≠ x := fun e => hy (e ▸ hxP)
    rw [mget_mdel, mget_mdel, if_neg y1, if_neg y2]; exact o.out y hy
  · rw [mget_mdel, mget_mdel]
    rw [List.take_add_one, hx] at hy
    rcases List.mem_append.mp hy with q | q
    · rw [o.off y q]; split <;> (try split) <;> rfl
    · simp at q; subst q; simp
theorem nodup_inj : ∀ {W : List Int}, W.Nodup → ∀ (i j : Nat) (x : Int), W[i]? = some x → W[j]? = some x → i = j
  | [], _, i, _, _, h, _ => by simp at h
  | y :: r, nd, i, j, x, h1, h2 => by
    rw [List.nodup_cons] at nd
    cases i with
    | zero =>
      cases j with
      | zero => rfl
      | succ j => simp at h1 h2; subst h1; exact absurd (List.mem_of_getElem? h2) nd.1
    | succ i =>
      cases j with
      | zero => simp at h1 h2; subst h2; exact absurd (List.mem_of_getElem? h1) nd.1
      | succ j => simp at h1 h2; rw [nodup_inj nd.2 i j x h1 h2]
theorem nodup_get {W : List Int} (nd : W.Nodup) {i j : Nat} {x : Int} (h1 : W[i]? = some x) (h2 : W[j]? = some x) : i = j := by
  exact nodup_inj nd i j x h1 h2
end
end Fl

namespace Fl
open PySem PySem.W PySem.Calls PyProof.Rows

section
variable {prog : Program} {w : World} {A : Around} {E : Value → Shared → Prop} {s s' s₀ : Shared} {h₀ h₁ : Heap} {env : Env} {ρ ρ' : Rho} {Λ Λ' : List (Addr × Obj)} {b : Bool} {K : Frag} {α : Type} {Rv : α → Value → Prop} {m : Mp α} {d : Addr} {od : Obj}
theorem l_sorted {l : Addr} {ns : List Int} {Q : Value → Shared → Prop} (S : CS true s₀ h₀ env ρ Λ s) (hl : IntL s.heap l ns) (hn : ns.length ≤ 16777216)
    (h : ∀ D out e ns' s', IntsAre out.toList ns' → ns'.Perm ns → ns'.Pairwise (· ≤ ·) → CS true s₀ h₀ env ρ ((D, lst out e) :: Λ) s' → s.heap.get? D = none → Q (.ref D) s') : wpAny (model prog w) A (call (.builtin "sorted") [.ref l]) Q E s := by
  obtain ⟨vs, a, hi⟩ := hl
  refine sorted_any a hi (by rw [hi.length]; exact hn) fun out ns' a1 a2 a3 => ?_
  obtain ⟨e, he⟩ := sortedAll_at s.heap vs out
  exact h _ out e ns' _ a1 a2 a3 (S.new (wr := []) (tk := s.toks) rfl (fun _ _ _ q => sortedAll_old q) (fun _ h => nomatch h) (fun _ h => nomatch h) (fresh_none (Nat.le_succ _)) he) (fresh_none (Nat.le_succ _))
theorem ints_keys {kvs : List (Int × Value)} {m : Mp α} (p : Prs Rv kvs m) : ∀ (vs : List Value), vs.length = kvs.length → (∀ (j : Nat) v, vs[j]? = some v → ∃ k x, kvs[j]? = some (k, x) ∧ (intKind prog w).is k v = true) → IntsAre vs (m.map (·.1)) := by
  induction p with
  | nil => intro vs hl _; rw [List.length_eq_zero_iff.mp hl]; exact .nil
  | @cons k a x r m' _ _ ih =>
    intro vs hl h
    cases vs with
    | nil => simp at hl
    | cons v vs =>
      obtain ⟨k', x', e, hk⟩ := h 0 v rfl
      simp at e
      obtain ⟨t, rfl⟩ := Value.isInt_shape hk
      rw [← e.1]
      exact .cons _ t (ih vs (by simpa using hl) fun j u hu => by simpa using h (j + 1) u (by simpa using hu))
theorem d_list {Q : Value → Shared → Prop} (S : CS true s₀ h₀ env ρ Λ s) (hh : A.handled = none) (e : s.heap.get? d = some od) (D : DG prog w Rv od m) (hd : (d == sysModules) = false) (hn : m.length ≤ 16777216)
    (h : ∀ l ys k s', IntsAre ys.toList (m.map (·.1)) → CS true s₀ h₀ env ρ ((l, lst ys k) :: Λ) s' → s.heap.get? l = none → Q (.ref l) s') : wpAny (model prog w) A (call (.type "list") [.ref d]) Q E s := by
  obtain ⟨kvs, x, p⟩ := D.at e
  obtain ⟨ep, hat⟩ := x.dictAt
  refine kdl_call (kdl_dict (knd := intKind prog w) (kvs := kvs) (ep := ep) hd) hh hat (by rw [p.length, sizeLine_eq]; exact hn) fun h' tk acc' c' hk hD hacc => ?_
  refine h _ acc' c' _ (ints_keys p acc'.toList (by rw [Array.length_toList]; exact hacc.1) fun j v q => hacc.2 j v (by rw [← Array.getElem?_toList]; exact q)) (S.new (wr := []) rfl (fun a o _ q => hk a o q) (fun _ h => nomatch h) (fun _ h => nomatch h) (fresh_none (Nat.le_refl _)) hD) (fresh_none (Nat.le_refl _))
/-- the last of a list -/
theorem l_last {value slice : Expr} {l : Addr} {ns : List Int} {u : Tok} {Q : Value → Shared → Prop} (hl : IntL s.heap l ns) (h0 : 0 < ns.length) (hn : ns.length ≤ 16777216)
    (hs : subscripted slice false (.ref l) (.int (-1) u) = operate [.ref l, .int (-1) u] (getItem (.ref l) (.int (-1) u))) (h : ∀ t, Q (.int (ns.getD (ns.length - 1) 0) t) s) : wpAny (model prog w) A (subscriptTail value slice (.ref l) (.int (-1) u)) Q E s := by
  obtain ⟨vs, a, hi⟩ := hl
  have hlen := hi.length
  have hk : ns.length - 1 < ns.length := by (first | lia | omega)
  obtain ⟨t, e⟩ := hi.get (ns.length - 1) ns[ns.length - 1] (by simp [hk])
  have : ns.getD (ns.length - 1) 0 = ns[ns.length - 1] := by simp [List.getD, hk]
  refine tail_any a.typeIs slot_list_getitem.lookup (wpAny_getItem_list_neg a (by decide) (by simp; (first | lia | omega)) (by decide) ?_ (this ▸ h t)) hs
  have : ((-1 : Int) + (vs.toArray.size : Int)).toNat = ns.length - 1 := by simp; (first | lia | omega)
  rw [this]
  simpa using e
/-- an int of a pair -/
theorem u_at {value slice : Expr} {x : Addr} {v1 v2 v : Value} {k : Int} {u : Tok} {Q : Value → Shared → Prop} (hx : s.heap.get? x = some (tup #[v1, v2])) (hk : (k = 0 ∧ v = v1) ∨ (k = 1 ∧ v = v2))
    (hs : subscripted slice false (.ref x) (.int k u) = operate [.ref x, .int k u] (getItem (.ref x) (.int k u))) (h : Q v s) : wpAny (model prog w) A (subscriptTail value slice (.ref x) (.int k u)) Q E s := by
  have ht : IsTup s.heap x #[v1, v2] := ⟨_, hx, rfl, _, rfl⟩
  rcases hk with ⟨rfl, rfl⟩ | ⟨rfl, rfl⟩
  · exact tail_any ht.typeIs slot_tuple_getitem.lookup (getItem_tuple (j := 0) ht (by decide) (by decide) rfl rfl h) hs
  · exact tail_any ht.typeIs slot_tuple_getitem.lookup (getItem_tuple (j := 1) ht (by decide) (by decide) rfl rfl h) hs
/-- an object changed by a call, all else kept -/
structure Upd (d : Addr) (od' : Obj) (s s' : Shared) : Prop where
  same : ∃ h tk, s' = { s with heap := h, toks := tk }
  keep : ∀ a o, a ≠ d → s.heap.get? a = some o → s'.heap.get? a = some o
  at_ : s'.heap.get? d = some od'
theorem CS.upd {g : Obj → List (Addr × Obj)} {od' : Obj} (S : CS true s₀ h₀ env ρ Λ s) (U : ChgF d od Λ g) (u : Upd d od' s s') : CS true s₀ h₀ env ρ (g od') s' := by
  obtain ⟨h, tk, rfl⟩ := u.same
  exact S.chg (U.to _) u.keep u.at_
/-- the heap but for one object -/
theorem but_one (s : Shared) (d : Addr) : ∃ W : Heap, Sub W s.heap ∧ W.get? d = none ∧ ∀ a o, a ≠ d → s.heap.get? a = some o → W.get? a = some o :=
  ⟨without s.heap (· = d), without_sub _ _, without_none rfl, fun _ _ ha e => without_get ha e⟩
/-- a new object taken among the changed ones, all else that is new stays -/
theorem CS.adoptW {D : Addr} {o : Obj} (S : CS true s₀ h₀ env ρ Λ s) (hk : Keeps s s') (hD : s.heap.get? D = none) (hD' : s'.heap.get? D = some o) :
    ∃ h₁, Sub h₀ h₁ ∧ CS true s₀ h₁ env ρ ((D, o) :: Λ) s' ∧ ∀ a x, s.heap.get? a = none → a ≠ D → s'.heap.get? a = some x → h₁.get? a = some x := by
  obtain ⟨h₁, k1, S1, k3⟩ := (S.adopt hk hD hD').wide
  refine ⟨h₁, k1, S1, fun a x hn hne he => k3 a x he fun q => ?_⟩
  rcases q with q | ⟨n, q⟩ | q
  · obtain ⟨o', e⟩ := S.own_at (.inl q); rw [hn] at e; cases e
  · obtain ⟨o', e⟩ := S.own_at (.inr (.inl ⟨n, q⟩)); rw [hn] at e; cases e
  · rw [List.map_cons] at q
    rcases List.mem_cons.mp q with q | q
    · exact hne q
    · obtain ⟨o', e⟩ := S.own_at (.inr (.inr q)); rw [hn] at e; cases e
end
theorem gph {rows : List Str} {wd : Nat} (g : Grid rows wd) : Gph (mayB rows wd) (shadeN wd) := by
  refine ⟨fun a c => mayB_symm rows wd a c, fun a c h => shade_ne g h, fun a => ?_⟩
  unfold shadeN
  split
  · exact .inl rfl
  · (first | lia | omega)
end Fl

namespace Fl
open PySem

theorem nodup_len : ∀ {W C : List Int}, W.Nodup → (∀ c ∈ W, c ∈ C) → W.length ≤ C.length
  | [], _, _, _ => Nat.zero_le _
  | c :: r, C, nd, h => by
    rw [List.nodup_cons] at nd
    have hc := h c (List.mem_cons_self ..)
    have := nodup_len (C := C.filter fun x => x != c) nd.2 fun x hx => List.mem_filter.mpr ⟨h x (List.mem_cons_of_mem _ hx), by
      have : x ≠ c := fun e => nd.1 (e ▸ hx)
      simpa using this⟩
    have := filter_len hc
    rw [List.length_cons]
    (first | lia | omega)
section
variable {may : Int → Int → Bool} {sh : Int → Int} {z : Int} {m : Mp Int} {C W : List Int} {F : Mp (Option Int)} {p : Nat}
end
end Fl

namespace Fl
open PySem PySem.W PySem.Calls PyProof.Rows

section
variable {prog : Program} {w : World} {A : Around} {E : Value → Shared → Prop} {s s' s₀ : Shared} {h₀ h₁ : Heap} {env : Env} {ρ ρ' : Rho} {Λ Λ' : List (Addr × Obj)} {b : Bool} {K : Frag}
/-- an instance of a class of the text -/
theorem y_own {C x D : Addr} {flds : List (Str × Value)} {Q : Value → Shared → Prop} (X : K.In s.heap) (O : ObjAt s.heap C x flds) (hy : isIn K (.ref C) D = true) (h : Q (.bool true) s) : wpAny (model prog w) A (call (.builtin "isinstance") [.ref x, .ref D]) Q E s := by
  obtain ⟨ox, od, I, _⟩ := O.at_
  exact y_exc_yes X ⟨ox, I.at_, I.cls⟩ hy h
end
end Fl

namespace Fl
open PySem PySem.W PySem.Calls PyProof.Rows PyProof.V

section
variable {prog : Program} {w : World} {A : Around} {E : Value → Shared → Prop} {s s' s₀ : Shared} {h₀ h₁ : Heap} {env : Env} {ρ ρ' : Rho} {Λ Λ' : List (Addr × Obj)} {b : Bool} {K : Frag} {α : Type} {Rv : α → Value → Prop} {m m' : Mp α} {d d' : Addr} {od od' : Obj}
/-- the keys of a dict in their order -/
theorem d_sorted {Q : Value → Shared → Prop} (S : CS true s₀ h₀ env ρ Λ s) (hh : A.handled = none) (e : s.heap.get? d = some od) (D : DG prog w Rv od m) (hd : (d == sysModules) = false) (hn : m.length ≤ 16777216)
    (h : ∀ l out k ns s', IntsAre out.toList ns → ns.Perm (m.map (·.1)) → ns.Pairwise (· ≤ ·) → CS true s₀ h₀ env ρ ((l, lst out k) :: Λ) s' → s.heap.get? l = none → Q (.ref l) s') : wpAny (model prog w) A (call (.builtin "sorted") [.ref d]) Q E s := by
  obtain ⟨kvs, x, p⟩ := D.at e
  obtain ⟨ep, hat⟩ := x.dictAt
  have hkl : kvs.length ≤ sizeLine := by rw [p.length, sizeLine_eq]; exact hn
  refine Calls.call_function_entry kind_sorted plain_sorted entry_sorted (args_sorted1 _) ?_
  unfold Builtin.«sorted»
  refine wpAny_bind (m := checkCount "sorted" 1 1 _) (wpAny_pure ?_)
  refine wpAny_bind (kdu_collect (A := A.in1) (kdl_dict (knd := intKind prog w) (kvs := kvs) (ep := ep) hd) hh hat hkl fun h' tk acc hk hacc => ?_)
  have hl : acc.toList.length = kvs.length := by rw [Array.length_toList]; exact hacc.1
  have hI := ints_keys (prog := prog) (w := w) p acc.toList hl fun j v q => hacc.2 j v (by rw [← Array.getElem?_toList]; exact q)
  refine wpAny_bind (wpAny_newList ?_ (by rw [hl]; exact hkl))
  have q : (h'.push (seqObj "list" acc.toList.toArray 0)).get? h'.objs.size = some (seqObj "list" acc.toList.toArray 0) := Heap.get?_push_size _ rfl
  have hfresh : s.heap.get? h'.objs.size = none := Sub.none hk (fresh_none (Nat.le_refl _))
  refine wpAny_bind (wpAny_holding (wpAny_call_entry slot_list_sort ⟨_, q, rfl⟩ entry_list_sort (sort_tree q hI (by rw [hl, p.length]; exact hn) fun out ns' b1 b2 b3 => ⟨_, rfl, ?_⟩) (args_list_sort _)))
  obtain ⟨k, hk2⟩ := sortedHeap_at (out := out) q
  refine wpAny_pure ⟨_, rfl, h _ out k ns' _ b1 b2 b3 (S.new (wr := []) (tk := tk) rfl (fun a o _ z => ?_) (fun _ h => nomatch h) (fun _ h => nomatch h) hfresh hk2) hfresh⟩
  have z' := hk a o z
  have ha : a < h'.objs.size := Heap.lt_size z'
  rw [sortedHeap_old (Nat.ne_of_lt ha) (by rw [size_push']; exact Nat.lt_succ_of_lt ha)]
  exact Heap.get?_push_of_some _ z'

/-- two dicts that hold the same -/
theorem keys_len {β : Type} {m : Mp α} {m' : Mp β} (nd : (m.map (·.1)).Nodup) (nd' : (m'.map (·.1)).Nodup) (h : ∀ x, (mget m x).isSome = (mget m' x).isSome) : m.length = m'.length := by
  have sub : ∀ {γ δ : Type} {a : Mp γ} {b : Mp δ}, (a.map (·.1)).Nodup → (∀ x, (mget a x).isSome = (mget b x).isSome) → a.length ≤ b.length := fun {γ δ a b} nd h => by
    rw [← List.length_map (f := (·.1)) (as := a), ← List.length_map (f := (·.1)) (as := b)]
    refine nodup_len nd fun c hc => ?_
    cases e : mget b c with
    | some v => exact List.mem_map.mpr ⟨(c, v), mget_mem e, rfl⟩
    | none =>
      have := h c
      rw [e] at this
      have hn : mget a c = none := by simpa using this
      exact absurd hc (mget_none_iff.mp hn)
  exact Nat.le_antisymm (sub nd h) (sub nd' fun x => (h x).symm)
theorem hits_same {enc : α → PyData} (hf : ∀ a x, Rv a x → Flat x (enc a)) (hs : ∀ a, PyData.eqv (enc a) (enc a) = true) {kb : List (Int × Value)} (pb : Prs Rv kb m') : ∀ {ka : List (Int × Value)} {n : Mp α}, Prs Rv ka n → (∀ q ∈ n, mget m' q.1 = some q.2) → KeqHits A s kb ka true := by
  intro ka n p
  induction p with
  | nil => intro _; exact .nil
  | @cons k a x r n hx _ ih =>
    intro h
    have hk := h (k, a) (List.mem_cons_self ..)
    rcases pb.get k with ⟨y, a', e1, e2, ry⟩ | ⟨_, e2⟩
    · rw [hk] at e2; cases e2
      have he := keq_flat (A := A) (s := s) (hf a x hx) (hf a y ry)
      rw [hs] at he
      exact KeqHits.hit e1 he (ih fun q hq => h q (List.mem_cons_of_mem _ hq))
    · rw [hk] at e2; cases e2
theorem d_eqT {enc : α → PyData} {Q : Value → Shared → Prop} (hf : ∀ a x, Rv a x → Flat x (enc a)) (hs : ∀ a, PyData.eqv (enc a) (enc a) = true) (e : s.heap.get? d = some od) (D : DG prog w Rv od m) (hd : (d == sysModules) = false) (e' : s.heap.get? d' = some od') (D' : DG prog w Rv od' m') (hd' : (d' == sysModules) = false)
    (hu : A.units < cLine) (ext : ∀ x, mget m x = mget m' x) (h : Q (.bool true) s) : wpAny (model prog w) A (compareOp .Eq (.ref d) (.ref d')) Q E s := by
  have nd := D.nodup
  have nd' := D'.nodup
  obtain ⟨kvs, x, p⟩ := D.at e
  obtain ⟨kvs', x', p'⟩ := D'.at e'
  have hl : kvs.length = kvs'.length := by rw [p.length, p'.length]; exact keys_len nd nd' fun z => by rw [ext]
  refine keq_eq hd hd' x x' hu (fun _ => hits_same hf hs p' p fun q hq => by rw [← ext]; exact mget_of_mem nd hq) ?_
  rw [hl]; simpa using h
theorem d_neF {enc : α → PyData} {Q : Value → Shared → Prop} (hf : ∀ a x, Rv a x → Flat x (enc a)) (hs : ∀ a, PyData.eqv (enc a) (enc a) = true) (e : s.heap.get? d = some od) (D : DG prog w Rv od m) (hd : (d == sysModules) = false) (e' : s.heap.get? d' = some od') (D' : DG prog w Rv od' m') (hd' : (d' == sysModules) = false)
    (hu : A.units < cLine) (ext : ∀ x, mget m x = mget m' x) (h : Q (.bool false) s) : wpAny (model prog w) A (compareOp .NotEq (.ref d) (.ref d')) Q E s := by
  have nd := D.nodup
  have nd' := D'.nodup
  obtain ⟨kvs, x, p⟩ := D.at e
  obtain ⟨kvs', x', p'⟩ := D'.at e'
  have hl : kvs.length = kvs'.length := by rw [p.length, p'.length]; exact keys_len nd nd' fun z => by rw [ext]
  refine keq_ne hd hd' x x' hu (fun _ => hits_same hf hs p' p fun q hq => by rw [← ext]; exact mget_of_mem nd hq) ?_
  rw [hl]; simpa using h
theorem fl_int (a : Int) (x : Value) (h : RInt a x) : Flat x (.int a) := by
  obtain ⟨t, rfl⟩ := h
  exact fun _ => Reads.int _ _
theorem eqv_int (a : Int) : PyData.eqv (.int a) (.int a) = true := by simp [PyData.eqv]
/-- a loop over a dict's keys -/
theorem it_dict {Q : Value → Shared → Prop} (S : CS true s₀ h₀ env ρ Λ s) (hh : A.handled = none) (e : h₀.get? d = some od) (D : DG prog w Rv od m) (hd : (d == sysModules) = false)
    (h : ∀ it s', It prog w A s₀ h₀ env ρ Λ m.length (fun i v => ∃ k t, (m.map (·.1))[i]? = some k ∧ v = .int k t) it s' → Q it s') : wpAny (model prog w) A (pyIter (.ref d)) Q E s := by
  obtain ⟨kvs, x, p⟩ := D.at (S.atBase e)
  obtain ⟨ep, hat⟩ := x.dictAt
  have hlt : d < s.heap.objs.size := Heap.lt_size (S.atBase e)
  have W := Walks.dictKeys (prog := prog) (w := w) (knd := intKind prog w) (A := A) hh s.heap.objs.size d (Nat.ne_of_lt hlt) kvs ep
  refine wpAny_pyIter_dict hd hat (h _ _ ⟨s.heap.objs.size, [s.heap.objs.size, d], [s.heap.objs.size], (fun i h => h.IsKeyIter s.heap.objs.size d i kvs.length ep ∧ Heap.DictAt (intKind prog w) h d kvs ep), rfl, ?W, ⟨⟨_, Heap.get?_push_size _ rfl, rfl, rfl⟩, hat.push _⟩, fun a ha => ?_, fun a ha => ?_, fun a ha ho' => ?_, S.pushK _ _⟩)
  case W =>
    rw [← p.length]
    refine ⟨W.sub, W.frame, fun i s Q E hi st hQ => W.item i s Q E hi st fun v h' tk hP => hQ v h' tk ?_, W.done, W.self⟩
    obtain ⟨k, y, e1, e2⟩ := hP
    obtain ⟨t, rfl⟩ := Value.isInt_shape e2
    refine ⟨k, t, ?_, rfl⟩
    rw [← p.keys, List.getElem?_map, e1]; rfl
  · rw [Heap.size_push]
    rcases List.mem_cons.mp ha with rfl | ha
    · exact Nat.lt_succ_self _
    · rw [List.mem_singleton.mp ha]; exact Nat.lt_succ_of_lt hlt
  · rw [List.mem_singleton.mp ha]
    exact S.base.none (fresh_none (Nat.le_refl _))
  · rcases List.mem_cons.mp ha with rfl | ha
    · obtain ⟨o', q⟩ := S.own_at ho'
      exact absurd (Heap.lt_size q) (Nat.lt_irrefl _)
    · rw [List.mem_singleton.mp ha] at ho'
      rw [S.own_no ho'] at e; cases e
end
end Fl

namespace Fl
open PySem PySem.W PySem.Calls PyProof.Rows PyProof.V

section
variable {prog : Program} {w : World} {A : Around} {E : Value → Shared → Prop} {s s' s₀ : Shared} {h₀ h₁ : Heap} {env : Env} {ρ ρ' : Rho} {Λ Λ' : List (Addr × Obj)} {b : Bool} {K : Frag} {α : Type} {Rv : α → Value → Prop} {m m' : Mp α} {d d' : Addr} {od od' : Obj}
end
end Fl

namespace Fl
open PySem PySem.W PySem.Calls PyProof.Rows

section
variable {may : Int → Int → Bool} {sh : Int → Int} {z : Int} {m : Mp Int} {C : List Int}
end
/-- a laying made anew out of a dict, cell by cell -/
structure Mad (may : Int → Int → Bool) (m : Mp Int) (ks : List Int) (i : Nat) (m' : Mp Int) : Prop where
  lay : LayM may m'
  sub : ∀ x y, mget m' x = some y → mget m x = some y
  on : ∀ c ∈ ks.take i, ∀ v, mget m c = some v → c < v → mget m' c = some v
  off : ∀ c ∈ ks.drop i, ∀ v, mget m c = some v → c < v → mget m' c = none ∧ mget m' v = none
section
variable {may : Int → Int → Bool} {sh : Int → Int} {m m' : Mp Int} {ks : List Int}
theorem Mad.start : Mad may m ks 0 [] := ⟨LayM.nil _, fun _ _ h => by simp [mget] at h, fun _ h => by simp at h, fun _ _ _ _ _ => ⟨rfl, rfl⟩⟩
theorem drop_get {i : Nat} {c : Int} (h : ks[i]? = some c) : ks.drop i = c :: ks.drop (i + 1) := by
  obtain ⟨hi, e⟩ := List.getElem?_eq_some_iff.mp h
  rw [List.drop_eq_getElem_cons hi, e]
theorem Mad.skip {i : Nat} {c v : Int} (x : Mad may m ks i m') (h : ks[i]? = some c) (hv : mget m c = some v) (hlt : ¬ c < v) : Mad may m ks (i + 1) m' := by
  refine ⟨x.lay, x.sub, fun y hy u hu hyu => ?_, fun y hy u hu hyu => x.off y (by rw [drop_get h]; exact List.mem_cons_of_mem _ hy) u hu hyu⟩
  rw [List.take_add_one, h] at hy
  rcases List.mem_append.mp hy with q | q
  · exact x.on y q u hu hyu
  · simp at q; subst q; rw [hv] at hu; cases hu; exact absurd hyu hlt
theorem Mad.put {i : Nat} {c v : Int} (g : Gph may sh) (M : LayM may m) (nd : ks.Nodup) (x : Mad may m ks i m') (h : ks[i]? = some c) (hv : mget m c = some v) (hlt : c < v) :
    may c v = true ∧ mget m' c = none ∧ mget m' v = none ∧ Mad may m ks (i + 1) (mput (mput m' c v) v c) := by
  obtain ⟨hvc, hmay⟩ := M.inv c v hv
  obtain ⟨o1, o2⟩ := x.off c (by rw [drop_get h]; exact List.mem_cons_self ..) v hv hlt
  refine ⟨hmay, o1, o2, x.lay.put g hmay o1 o2, fun a b q => ?_, fun y hy u hu hyu => ?_, fun y hy u hu hyu => ?_⟩
  · rw [mget_mput, mget_mput] at q
    by_cases x1 : a = v
    · rw [if_pos x1] at q; cases q; rw [x1]; exact hvc
    · rw [if_neg x1] at q
      by_cases x2 : a = c
      · rw [if_pos x2] at q; cases q; rw [x2]; exact hv
      · rw [if_neg x2] at q; exact x.sub a b q
  · rw [List.take_add_one, h] at hy
    rw [mget_mput, mget_mput]
    rcases List.mem_append.mp hy with q | q
    · have e := x.on y q u hu hyu
      have y1 : y ≠ v := fun z => by rw [z, o2] at e; cases e
      have y2 : y ≠ c := fun z => by rw [z, o1] at e; cases e
      rw [if_neg y1, if_neg y2]; exact e
    · simp at q; subst q; rw [hv] at hu; cases hu
      rw [if_neg (by (first | lia | omega)), if_pos rfl]
  · have hy0 : y ∈ ks.drop i := by rw [drop_get h]; exact List.mem_cons_of_mem _ hy
    obtain ⟨p1, p2⟩ := x.off y hy0 u hu hyu
    obtain ⟨huy, _⟩ := M.inv y u hu
    have hne : y ≠ c := fun e => by
      have hnd : (ks.drop i).Nodup := nd.sublist (List.drop_sublist ..)
      rw [drop_get h, List.nodup_cons] at hnd
      exact hnd.1 (e ▸ hy)
    have e1 : y ≠ v := fun e => by rw [e, hvc] at hu; cases hu; (first | lia | omega)
    have e2 : u ≠ c := fun e => by rw [e, hv] at huy; cases huy; (first | lia | omega)
    have e3 : u ≠ v := fun e => by rw [e, hvc] at huy; cases huy; exact hne rfl
    refine ⟨?_, ?_⟩
    · rw [mget_mput, mget_mput, if_neg e1, if_neg hne]; exact p1
    · rw [mget_mput, mget_mput, if_neg e3, if_neg e2]; exact p2
theorem Mad.all (g : Gph may sh) (M : LayM may m) (hk : ks.Perm (m.map (·.1))) (x : Mad may m ks ks.length m') : ∀ y, mget m' y = mget m y := by
  have on : ∀ a b, mget m a = some b → a < b → mget m' a = some b := fun a b h hlt =>
    x.on a (by rw [List.take_length]; exact hk.mem_iff.mpr (List.mem_map.mpr ⟨(a, b), mget_mem h, rfl⟩)) b h hlt
  intro y
  cases e : mget m y with
  | none =>
    cases e' : mget m' y with
    | none => rfl
    | some u => have := x.sub y u e'; rw [e] at this; cases this
  | some u =>
    obtain ⟨h1, h2⟩ := M.inv y u e
    have hne := g.ne h2
    by_cases q : y < u
    · exact on y u e q
    · have := on u y h1 (by (first | lia | omega))
      exact (x.lay.inv u y this).1
end
end Fl

namespace Fl
open PySem PySem.W PySem.Calls PyProof.Rows

end Fl

set_option Elab.async false
set_option linter.all false
namespace Fl
section
variable {may : Int → Int → Bool} {sh : Int → Int} {z : Int} {m : Mp Int} {F : Mp (Option Int)}
end
end Fl

namespace Fl
open PySem PySem.W PySem.Calls PyProof.Rows PyProof.V

section
variable {prog : Program} {w : World} {A : Around} {E : Value → Shared → Prop} {s s' s₀ : Shared} {h₀ h₁ : Heap} {env : Env} {ρ ρ' : Rho} {Λ Λ' : List (Addr × Obj)} {b : Bool} {K : Frag} {α : Type} {Rv : α → Value → Prop} {m m' : Mp α} {d d' : Addr} {od od' : Obj}
/-- d.get(k), a key that is there -/
theorem d_get {k : Int} {tk : Tok} {a : α} {Q : Value → Shared → Prop} (S : CS b s₀ h₀ env ρ Λ s) (e : s.heap.get? d = some od) (D : DG prog w Rv od m) (hd : (d == sysModules) = false) (hk : mget m k = some a)
    (h : ∀ x s', Rv a x → CS b s₀ h₀ env ρ Λ s' → Q x s') : wpAny (model prog w) A (call (.builtin "dict.get") [.ref d, .int k tk]) Q E s := by
  obtain ⟨kvs, y, p⟩ := D.at e
  rcases p.get k with ⟨x, a', e1, e2, r⟩ | ⟨_, e2⟩
  · rw [hk] at e2; cases e2
    refine call_meetsIn PySem.F.slot_dict_get y.typeIs PySem.F.entry_dict_get (PySem.F.args_dict_get_2 _ _) (meets_dict_get (intKind prog w) d (intKind_is ..) hd) ⟨_, y.mapOf, ?_⟩
    rw [e1]
    exact h x _ r (S.tok _)
  · rw [hk] at e2; cases e2
theorem y_dict {Q : Value → Shared → Prop} (e : s.heap.get? d = some od) (D : DG prog w Rv od m) (h : Q (.bool true) s) : wpAny (model prog w) A (call (.builtin "isinstance") [.ref d, .type "dict"]) Q E s := by
  obtain ⟨kvs, ⟨_, _, hx, _, _, _, _⟩, p⟩ := D
  exact PySem.IsiPair.dict_dict e hx.1 h
end
end Fl

namespace Fl
open PySem PySem.W PySem.Calls PyProof.Rows PyProof.V

/-- a list of pairs of ints -/
def PairL (h : Heap) (D : Addr) (ps : List (Int × Int)) : Prop :=
  ∃ ys k, h.get? D = some (lst ys k) ∧ ys.size = ps.length ∧ ∀ (j : Nat) (p : Int × Int), ps[j]? = some p → ∃ x t u, ys[j]? = some (Value.ref x) ∧ h.get? x = some (tup #[.int p.1 t, .int p.2 u])
theorem PairL.mono {h h' : Heap} {D : Addr} {ps : List (Int × Int)} (x : PairL h D ps) (k : Sub h h') : PairL h' D ps := by
  obtain ⟨ys, n, a, b, c⟩ := x
  exact ⟨ys, n, k _ _ a, b, fun j p q => by obtain ⟨x, t, u, e1, e2⟩ := c j p q; exact ⟨x, t, u, e1, k _ _ e2⟩⟩
def pD (p : Int × Int) : PyData := .tuple [.int p.1, .int p.2]
theorem reads_pairs {h : Heap} : ∀ (vs : List Value) (ps : List (Int × Int)), vs.length = ps.length → (∀ (j : Nat) (p : Int × Int), ps[j]? = some p → ∃ x t u, vs[j]? = some (Value.ref x) ∧ h.get? x = some (tup #[.int p.1 t, .int p.2 u])) → ∃ as, ReadsAll h vs (ps.map pD) as
  | [], [], _, _ => ⟨_, .nil⟩
  | [], _ :: _, hl, _ => by simp at hl
  | _ :: _, [], hl, _ => by simp at hl
  | v :: vs, p :: ps, hl, hp => by
    obtain ⟨as, r⟩ := reads_pairs vs ps (by simpa using hl) fun j q e => by simpa using hp (j + 1) q (by simpa using e)
    obtain ⟨x, t, u, e1, e2⟩ := hp 0 p rfl
    have e1' : v = .ref x := by simpa using e1
    subst e1'
    exact ⟨_, .cons (.tuple e2 rfl rfl (.cons (.int _ _) (.cons (.int _ _) .nil))) r⟩
theorem PairL.reads {h : Heap} {D : Addr} {ps : List (Int × Int)} (x : PairL h D ps) : ∃ as, Reads h (.ref D) (.list (ps.map pD)) as := by
  obtain ⟨ys, n, a, b, c⟩ := x
  obtain ⟨as, r⟩ := reads_pairs (h := h) ys.toList ps (by rw [Array.length_toList]; exact b) fun j p q => by
    obtain ⟨x, t, u, e1, e2⟩ := c j p q
    exact ⟨x, t, u, by rw [Array.getElem?_toList]; exact e1, e2⟩
  exact ⟨_, .list a rfl rfl r⟩
theorem lay_pairs : ∀ ps : List (Int × Int), PyData.canLayAll0 (ps.map pD) = true ∧ PyData.depthAll (ps.map pD) ≤ 1
  | [] => by simp [PyData.canLayAll0, PyData.depthAll]
  | p :: ps => by
    have ih := lay_pairs ps
    have e : (pD p).canLay0 = true ∧ (pD p).depth = 1 := by simp [pD, PyData.canLay0, PyData.canLayAll0, PyData.depth, PyData.depthAll]
    simp only [List.map_cons, PyData.canLayAll0, PyData.depthAll, e.1, e.2, ih.1, Bool.and_self, true_and]
    have := ih.2
    (first | lia | omega)
theorem shaped_pairs (ps : List (Int × Int)) : SeqAt.shaped (.list (ps.map pD)) = true := by
  have := lay_pairs ps
  unfold SeqAt.shaped
  simp only [PyData.canLay0, PyData.depth, this.1, Bool.true_and]
  exact decide_eq_true (by (first | lia | omega))
theorem eqv_pairs : ∀ ps qs : List (Int × Int), PyData.eqvAll (ps.map pD) (qs.map pD) = decide (ps = qs)
  | [], [] => by simp [PyData.eqvAll]
  | [], _ :: _ => by simp [PyData.eqvAll]
  | _ :: _, [] => by simp [PyData.eqvAll]
  | p :: ps, q :: qs => by
    have ih := eqv_pairs ps qs
    obtain ⟨a, b⟩ := p
    obtain ⟨c, d⟩ := q
    simp only [List.map_cons, PyData.eqvAll, ih, pD, PyData.eqv, Bool.and_true]
    rw [Bool.eq_iff_iff]
    simp [and_assoc]
section
variable {prog : Program} {w : World} {A : Around} {E : Value → Shared → Prop} {s s' s₀ : Shared} {a b : Addr} {ps qs : List (Int × Int)}
theorem p_eq {Q : Value → Shared → Prop} (x : PairL s.heap a ps) (y : PairL s.heap b qs) (hu : A.units + 64 < cLine) (h : Q (.bool (decide (ps = qs))) s) : wpAny (model prog w) A (compareOp .Eq (.ref a) (.ref b)) Q E s := by
  obtain ⟨as, ra⟩ := x.reads
  obtain ⟨bs, rb⟩ := y.reads
  refine eq_dataH ra rb (shaped_pairs _) (shaped_pairs _) hu ?_
  rw [PyData.eqv, eqv_pairs]; exact h
theorem p_ne {Q : Value → Shared → Prop} (x : PairL s.heap a ps) (y : PairL s.heap b qs) (hu : A.units + 64 < cLine) (h : Q (.bool (!decide (ps = qs))) s) : wpAny (model prog w) A (compareOp .NotEq (.ref a) (.ref b)) Q E s := by
  obtain ⟨as, ra⟩ := x.reads
  obtain ⟨bs, rb⟩ := y.reads
  refine ne_dataH ra rb (shaped_pairs _) (shaped_pairs _) hu ?_
  rw [PyData.eqv, eqv_pairs]; exact h
end
end Fl

namespace Fl
open PySem PySem.W PySem.Calls PyProof.Rows PyProof.V

/-- a class of the text without __eq__ and __ne__ -/
def cmpB (K : Frag) (C : Addr) : Bool :=
  match K.lookup C with
  | some o => (match o.data with
    | .cls r => (match o.cls with | .type n => n == "type" | _ => false) && (match r.mro with | [.ref c, .type n] => c == C && n == "object" | _ => false) && (!r.hasDel) &&
      (match o.slots.toList with | [_, _, _, _, some (.builtin _), _] => true | _ => false) &&
      (match K.lookup r.ns with
        | some n => (match n.data with
          | .dict es _ => es.toList.all (fun e => match e.key with | .str _ _ => true | _ => false) && (nsFind es "__eq__").isNone && (nsFind es "__ne__").isNone
          | _ => false)
        | none => false)
    | _ => false)
  | none => false
theorem cmp_of {K : Frag} {h : Heap} {C x : Addr} {ox : Obj} (X : K.In h) (hx : h.get? x = some ox) (hc : ox.cls = .ref C) (hb : cmpB K C = true) : h.CmpInst x C [.type "object"] := by
  unfold cmpB at hb
  cases e : K.lookup C with
  | none => rw [e] at hb; cases hb
  | some o =>
    rw [e] at hb
    obtain ⟨cl, dd, dt, sl⟩ := o
    dsimp only at hb
    cases dt <;> try (dsimp only at hb; cases hb)
    rename_i r
    dsimp only at hb
    simp only [Bool.and_eq_true] at hb
    obtain ⟨⟨⟨⟨h1, h2⟩, h3⟩, h4⟩, h5⟩ := hb
    have q1 : cl = .type "type" := by
      revert h1; split
      · intro q; rw [beq_iff_eq.mp q]
      · intro q; cases q
    have q2 : r.mro = [.ref C, .type "object"] := by
      revert h2; split
      · rename_i e2; intro q; rw [e2]; simp only [Bool.and_eq_true, beq_iff_eq] at q; rw [q.1, q.2]
      · intro q; cases q
    have q4 : ∃ k0 k1 k2 k3 n k5, sl = #[k0, k1, k2, k3, some (.builtin n), k5] := by
      revert h4; split
      · rename_i e4; intro _; exact ⟨_, _, _, _, _, _, by rw [← Array.toArray_toList (xs := sl), e4]⟩
      · intro q; cases q
    obtain ⟨k0, k1, k2, k3, n, k5, rfl⟩ := q4
    subst q1
    cases e5 : K.lookup r.ns with
    | none => rw [e5] at h5; cases h5
    | some on =>
      rw [e5] at h5
      dsimp only at h5
      cases ed : on.data <;> rw [ed] at h5 <;> try (dsimp only at h5; cases h5)
      rename_i es ep
      dsimp only at h5
      simp only [Bool.and_eq_true, Option.isNone_iff_eq_none, List.all_eq_true] at h5
      obtain ⟨⟨a1, a2⟩, a3⟩ := h5
      obtain ⟨nm, bs, mro, ns, qn, hd, sn, sub, ab, col, del⟩ := r
      have h3' : del = false := by simpa using h3
      have q2' : mro = [.ref C, .type "object"] := q2
      subst h3' q2'
      refine ⟨ox, nm, qn, ns, bs, hd, sn, sub, ab, col, dd, k0, k1, k2, k3, k5, n, nsFind es, hx, hc, X _ _ e, ⟨on, es, ep, X _ _ e5, ed, fun y hy => ?_, fun _ => rfl⟩, a2, a3⟩
      have := a1 y (Array.mem_toList_iff.mpr hy)
      revert this; split
      · rename_i e6; intro _; exact ⟨_, _, e6⟩
      · intro q; cases q
section
variable {prog : Program} {w : World} {A : Around} {E : Value → Shared → Prop} {s : Shared} {K : Frag} {C x : Addr} {flds : List (Str × Value)} {Q : Value → Shared → Prop}
/-- x != x, an object of a class of the text -/
theorem f_ne (X : K.In s.heap) (O : ObjAt s.heap C x flds) (hb : cmpB K C = true) (hu : A.units + 1 < cLine) (h : Q (.bool false) s) : wpAny (model prog w) A (compareOp .NotEq (.ref x) (.ref x)) Q E s := by
  obtain ⟨ox, od, I, _⟩ := O.at_
  have c := cmp_of X I.at_ I.cls hb
  obtain ⟨hh, g, d, t, os⟩ := s
  exact compareOp_ne_same PySem.F.cmp_object c hu h
end
end Fl

namespace Fl
open PySem PySem.W PySem.Calls PyProof.Rows
section
variable {M : Model} {prog : Program} {w : World} {A : Around} {E : Value → Shared → Prop} {s s' s₀ : Shared} {h₀ B : Heap} {env : Env} {ρ : Rho} {Λ : List (Addr × Obj)} {outer : List Env} {e C D : Addr} {K : Frag}
/-- a clause without a name that catches -/
theorem h_hitN {x : Str} {np pos : Pos} {b₀ : Stmt} {suite : List Stmt} {rest : List ExceptHandler} {l : List Env} {Q : Flow → Shared → Prop} (S : CS true s₀ B env ρ Λ s) (hd : ∀ p ∈ Λ, ∀ vs, p.2.data ≠ .fields vs) (G : Gr K B) (g : GF K x D) (m : MatchK K C D true)
    (fl : ∃ a0, Heap.FlyingW B l e (.ref C) a0 s.heap) (hx : env.kindOf x = some .globalImplicit) (hg : env.globals = mainGlobals)
    (h : ∀ Λ' s' E'', Slk Λ Λ' → CS true s₀ B env ρ Λ' s' →
      wpAny (model prog w) (A.mark (some (.ref e))) (execs (b₀ :: suite) env) Q E'' s') :
    wpAny (model prog w) A (handleBy (.ref e) env (.ExceptHandler (some (.Name x np)) none (b₀ :: suite) pos :: rest)) Q E s := by
  obtain ⟨a0, f⟩ := fl
  have y : ExcAt s.heap e C := f.there
  refine wpAny_handleBy_cons (codeAny_handlers_test (n_glob S G g.ns hx hg g.nd (exc_match (S.gr G).X y m ?_))) (by intro q; cases q)
  refine codeAny_handlers_suite ?_
  refine lands_againW f fun h₆ f₆ u₆ => ?_
  obtain ⟨Λ', x', S'⟩ := S.fly (s' := { s with heap := h₆ }) hd ⟨h₆, s.toks, rfl⟩ f₆.1 u₆
  exact h Λ' _ _ x' S'
end
end Fl

namespace Fl
open PySem PySem.W PySem.Calls PyProof.Rows
section
variable {M : Model} {prog : Program} {w : World} {A : Around} {E : Value → Shared → Prop} {s s' s'' s₀ : Shared} {h₀ B : Heap} {env : Env} {ρ : Rho} {Λ Λ₀ Λ' Λ₂ : List (Addr × Obj)} {outer : List Env} {e C d : Addr} {od od' : Obj} {K : Frag} {α : Type} {Rv : α → Value → Prop} {m : Mp α}
/-- behind a call that has caught an exception and changed one object: B stands, the rest but for its slots -/
structure LandD (B : Heap) (d : Addr) (od' : Obj) (s s' : Shared) : Prop where
  same : ∃ h tk, s' = { s with heap := h, toks := tk }
  sub : Sub B s'.heap
  at_ : s'.heap.get? d = some od'
  up : ∀ b o, b ≠ d → s.heap.get? b = some o → (∀ vs, o.data ≠ .fields vs) → ∃ sl, s'.heap.get? b = some { o with slots := sl }
theorem CS.landD (S : CS true s₀ B env ρ ((d, od) :: Λ) s) (hd : ∀ p ∈ Λ, ∀ vs, p.2.data ≠ .fields vs) (hf : ∀ vs, od'.data ≠ .fields vs) (l : LandD B d od' s s') : ∃ Λ', Slk Λ Λ' ∧ CS true s₀ B env ρ ((d, od') :: Λ') s' := by
  have e := S.atLed (List.mem_cons_self ..)
  have nf := (Heap.get?_some_iff.mp l.at_).2
  have a1 : (s.heap.update d fun _ => od').get? d = some od' := Heap.get?_update_self _ e nf
  have a2 : ∀ c, c ≠ d → (s.heap.update d fun _ => od').get? c = s.heap.get? c := fun c hc => Heap.get?_update_ne _ _ _ _ hc
  have S1 := S.chg (tk := s.toks) (h' := s.heap.update d fun _ => od') (Chg.head (o' := od')) (fun c x hc q => (a2 c hc).trans q) a1
  obtain ⟨h', tk', e'⟩ := l.same
  obtain ⟨Λ1, x, S2⟩ := S1.fly (s' := s') (fun p hp => by
    rcases List.mem_cons.mp hp with rfl | hp
    · exact hf
    · exact hd p hp) ⟨h', tk', by rw [e']⟩ l.sub (fun b o q nf => by
      by_cases hb : b = d
      · subst hb
        have : od' = o := Option.some.inj (a1.symm.trans q)
        subst this
        exact ⟨od'.slots, l.at_⟩
      · exact l.up b o hb ((a2 b hb).symm.trans q) nf)
  cases x with
  | @cons _ _ sl r r' x =>
    have : od' = { od' with slots := sl } := by
      have := S2.atLed (List.mem_cons_self ..)
      rw [l.at_] at this
      exact Option.some.inj this
    exact ⟨_, x, this ▸ S2⟩
theorem DG.nf (D : DG prog w Rv od m) : ∀ vs, od.data ≠ .fields vs := by
  obtain ⟨kvs, ⟨a, b, c, d, e, f, g⟩, p⟩ := D
  intro vs q
  rw [d] at q; cases q
/-- an object of the part that stays is taken among the changing ones -/
theorem CS.thaw (S : CS true s₀ B env ρ Λ s) (hd : B.get? d = some od) : CS true s₀ (without B (· = d)) env ρ ((d, od) :: Λ) s := by
  have hno : ¬ CS.own env Λ d := fun q => by
    have := S.own_no q
    rw [hd] at this; cases this
  have S1 := S.rebase (h₁ := without B (· = d)) ((without_sub _ _).trans S.base) fun a q => by
    cases z : (without B (· = d)).get? a with
    | none => rfl
    | some o =>
      have := without_sub _ _ _ _ z
      rw [S.own_no q] at this; cases this
  refine ⟨S1.kind, S1.same, S1.base, S1.all, S1.ns, S1.cell, S1.cells, S1.apart, S1.kinds, S1.locs, S1.nd, fun p hp => ?_, ?_⟩
  · rcases List.mem_cons.mp hp with rfl | hp
    · exact ⟨S.base _ _ hd, fun q => hno (.inl q), fun n q => hno (.inr (.inl ⟨n, q⟩)), fun _ => without_none rfl⟩
    · exact S1.led p hp
  · rw [List.map_cons, List.nodup_cons]
    exact ⟨fun q => hno (.inr (.inr q)), S1.lnd⟩
theorem frames_to {h h' base base' : Heap} : ∀ {l : List Env}, (∀ L o, base.get? L = none → h.get? L = some o → base'.get? L = none ∧ ∃ o', h'.get? L = some o' ∧ ∀ vs, o'.data ≠ .fields vs) → h.FunFrames base l → h'.FunFrames base' l
  | [], _, _ => trivial
  | env :: rest, hk, ⟨a, ⟨L, o, b1, b2, b3, b4⟩, c⟩ => by
    obtain ⟨q1, o', q2, q3⟩ := hk L o b2 b3
    exact ⟨a, ⟨L, o', b1, q1, q2, q3⟩, frames_to hk c⟩
theorem Stk.wider {B₂ : Heap} {s₁ : Shared} (k : Stk A B outer s₁.heap) (c : Cov B Λ₀ s₁.heap) (S : CS true s₀ B₂ env ρ Λ s) (hΛ : ∀ p ∈ Λ₀, p.1 ∈ Λ.map (·.1)) (hd : ∀ p ∈ Λ, ∀ vs, p.2.data ≠ .fields vs) : Stk A B₂ outer s.heap := by
  refine ⟨k.frames, frames_to (fun L o h1 h2 => ?_) k.funs, S.base⟩
  rcases c.all L o h2 with q | q
  · rw [h1] at q; cases q
  · have hm := hΛ _ q
    refine ⟨S.own_no (.inr (.inr hm)), ?_⟩
    obtain ⟨p, hp, e⟩ := List.mem_map.mp hm
    have := (S.led p hp).1
    rw [e] at this
    exact ⟨p.2, this, hd p hp⟩
theorem without_mono {B₂ : Heap} {P : Addr → Prop} (k : Sub B B₂) : Sub (without B P) (without B₂ P) := fun a o e => by
  have := k _ _ (without_sub _ _ _ _ e)
  by_cases p : P a
  · rw [without_none p] at e; cases e
  · exact without_get p this
theorem LandD.of {B₂ : Heap} {s₁ : Shared} (c : Cov B Λ₀ s₁.heap) (x : Slk Λ₀ Λ) (S : CS true s₁ B₂ env ρ Λ s) (k : Sub (without B (· = d)) B₂) (hd : B₂.get? d = some od') : LandD (without B (· = d)) d od' s₁ s := by
  refine ⟨S.same, k.trans S.base, S.atBase hd, fun b o hb q nf => ?_⟩
  rcases c.all b o q with z | z
  · exact ⟨o.slots, S.base _ _ (k _ _ (without_get hb z))⟩
  · obtain ⟨sl, z'⟩ := x.mem z
    exact ⟨sl, S.atLed z'⟩
end
end Fl

namespace Fl
open PySem PySem.W PySem.Calls PyProof.Rows

theorem lt_nat {h : Heap} {a : Addr} {o : Obj} (e : h.get? a = some o) : (show Nat from a) < h.objs.size := Heap.lt_size e
/-- the elements of a comprehension that are objects of its own making -/
def NewAt (C : Addr) (G : Value → Obj → Prop) (h : Heap) (v y : Value) : Prop := ∃ T o, y = .ref T ∧ C < T ∧ h.get? T = some o ∧ G v o
def NewIs (G : Value → Obj → Prop) (h : Heap) (v y : Value) : Prop := ∃ T o, y = .ref T ∧ h.get? T = some o ∧ G v o
theorem NewAt.keep {C : Addr} {G : Value → Obj → Prop} {h h' : Heap} {v y : Value} (x : NewAt C G h v y) (hk : ∀ b o, C < b → h.get? b = some o → h'.get? b = some o) : NewAt C G h' v y := by
  obtain ⟨T, o, rfl, a, b, c⟩ := x
  exact ⟨T, o, rfl, a, hk T o a b, c⟩
theorem paired_to {F F' : Value → Value → Prop} (hm : ∀ a b, F a b → F' a b) : ∀ {l₁ l₂ : List Value}, Paired F l₁ l₂ → Paired F' l₁ l₂
  | _, _, .nil => .nil
  | _, _, .cons h t => .cons (hm _ _ h) (paired_to hm t)

section
variable {prog : Program} {w : World} {A : Around} {R : Result → Shared → Prop} {s : Shared}
theorem loop_new {elt iter : Expr} {x : Str} {px : Pos} {ifs : List Expr} {scope : Scope} {pos : Pos} {I D : Addr} {fp wr : List Addr} {n : Nat} {P : Nat → Value → Prop} {St : Nat → Heap → Prop}
    {cenv : Env} {m : Str → Option Value} (W : Walks prog w A I fp wr n P St) (p : Value → Bool) (G : Value → Obj → Prop)
    (hx : cenv.kindOf x = some .local) (hp : (cenv.scope.kind == .class || (cenv.scope.kind == .module && cenv.locals != cenv.globals)) = false)
    (hDC : D < cenv.locals) (hDf : D ∉ fp) (hCf : ∀ b ∈ fp, b < cenv.locals)
    (hst : St 0 s.heap) (hacc : s.heap.PlainList D #[]) (hn : s.heap.Ns cenv.locals m)
    (htests : ∀ i v s₂ m₂, P i v → s₂.heap.Ns cenv.locals m₂ → m₂ x = some v → (∀ b o, b ≠ cenv.locals → b ∉ wr → b ≠ D → s.heap.get? b = some o → s₂.heap.get? b = some o) → s.toks ≤ s₂.toks →
      wpAny (model prog w) A (forIn ifs true fun c r => if r = true then do let ok ← isTrue c cenv (eval c cenv); pure (ForInStep.yield ok) else pure (ForInStep.yield r))
        (fun ok s₃ => ok = p v ∧ Keeps s₂ s₃) (notedBy (model prog w) A cenv fun e s' => R (.error e) s') s₂)
    (helt : ∀ i v s₂ m₂, P i v → p v = true → s₂.heap.Ns cenv.locals m₂ → m₂ x = some v → (∀ b o, b ≠ cenv.locals → b ∉ wr → b ≠ D → s.heap.get? b = some o → s₂.heap.get? b = some o) → s.toks ≤ s₂.toks →
      wpAny (model prog w) A (eval elt cenv) (fun y s₃ => NewAt cenv.locals G s₃.heap v y ∧ Keeps s₂ s₃) (notedBy (model prog w) A cenv fun e s' => R (.error e) s') s₂)
    (hR : ∀ h' tk m' ys (vs : List Value), h'.Ns cenv.locals m' → h'.PlainList D ys → vs.length = n → (∀ j v, vs[j]? = some v → P j v) → Paired (NewAt cenv.locals G h') (vs.filter p) ys.toList →
      (∀ b o, b ≠ cenv.locals → b ∉ wr → b ≠ D → s.heap.get? b = some o → h'.get? b = some o) → R (.ok .next) { s with heap := h', toks := tk })
    (hsz : n ≤ sizeLine) :
    codeAny (model prog w) A (.compLoop (.ListComp elt [⟨.Name x px, iter, ifs, 0⟩] scope pos) 0 (.ref I) (.ref D) cenv) R s := by
  have hDC' : D ≠ cenv.locals := Nat.ne_of_lt hDC
  have hCf' : cenv.locals ∉ fp := fun h => Nat.lt_irrefl _ (hCf _ h)
  refine codeAny_compLoop_tests
    (fun k s' => ∃ h' tk m' ys, ∃ vs : List Value, s' = { s with heap := h', toks := tk } ∧ St vs.length h' ∧ h'.PlainList D ys ∧ h'.Ns cenv.locals m' ∧ (∀ j v, vs[j]? = some v → P j v) ∧
      Paired (NewAt cenv.locals G h') (vs.filter p) ys.toList ∧ vs.length ≤ n ∧ k = n + 1 - vs.length ∧
      (∀ b o, b ≠ cenv.locals → b ∉ wr → b ≠ D → s.heap.get? b = some o → h'.get? b = some o) ∧ s.toks ≤ tk) ?_ (n + 1)
    ⟨s.heap, s.toks, m, #[], [], rfl, hst, hacc, hn, by simp, by simpa using Paired.nil, Nat.zero_le _, rfl, fun _ _ _ _ _ e => e, Nat.le_refl _⟩
  rintro k s' ⟨H, tk, m', ys, vs, rfl, hst', hacc', hn', hP, hF, hi, rfl, hk, htk⟩
  have hCw : cenv.locals ∉ wr := fun h => hCf' (W.sub _ h)
  have hDw : D ∉ wr := fun h => hDf (W.sub _ h)
  have hi' : ∀ b, cenv.locals < b → b ≠ cenv.locals ∧ b ∉ wr ∧ b ≠ D := fun b hb => ⟨Nat.ne_of_gt hb, fun q => Nat.lt_asymm hb (hCf _ (W.sub _ q)), Nat.ne_of_gt (Nat.lt_trans hDC hb)⟩
  by_cases hlt : vs.length < n
  · refine wpAny_with_toks (n := s.toks) htk (W.item vs.length _ _ _ hlt hst' fun v h₁ tk₁ hPv hst₁ hk₁ htk₁ => ?_)
    refine wpAny_assign_Name (wpAny_storeName_local hx (hn'.at' fun o e => hk₁ _ o hCw e) (fun h₂ hn₂ hs₂ => ?_) hp)
    have up₂ : ∀ b o, b ≠ cenv.locals → b ∉ wr → H.get? b = some o → h₂.get? b = some o := fun b o hbC hbf e => hs₂.extBut b o hbC (hk₁ b o hbf e)
    have hst₂ : St (vs.length + 1) h₂ := W.frame _ _ _ hst₁ fun b hb o e => hs₂.extBut b o (fun h => hCf' (h ▸ hb)) e
    refine wpAny_mono (wpAny_toks_of (n := s.toks) (Nat.le_succ_of_le htk₁) (htests vs.length v _ _ hPv hn₂ (by simp) (fun b o hbC hbf hbD e => up₂ b o hbC hbf (hk b o hbC hbf hbD e)) (Nat.le_succ_of_le htk₁))) (fun ok s₃ h₃ => ?_) fun _ _ e => e.2
    obtain ⟨htk₃, rfl, h₃, tk₃, rfl, hk₃⟩ := h₃
    have hst₃ : St (vs.length + 1) h₃ := W.frame _ _ _ hst₂ fun b _ o e => hk₃ b o e
    have hacc₃ : h₃.PlainList D ys := hacc'.at fun o e => hk₃ _ o (up₂ D o hDC' hDw e)
    have hn₃ := hn₂.keeps hk₃
    have hP' : ∀ j u, (vs ++ [v])[j]? = some u → P j u := fun j u hj => by
      rcases Nat.lt_trichotomy j vs.length with h | h | h
      · exact hP j u (by rwa [List.getElem?_append_left h] at hj)
      · subst h; simp at hj; subst hj; exact hPv
      · have hnone : (vs ++ [v])[j]? = none := List.getElem?_eq_none (by rw [List.length_append, List.length_singleton]; (first | lia | omega))
        rw [hnone] at hj; cases hj
    cases hpv : p v with
    | false =>
      simp only [Bool.false_eq_true, if_false]
      refine ⟨n + 1 - (vs.length + 1), by (first | lia | omega), h₃, tk₃, _, ys, vs ++ [v], rfl, by simpa using hst₃, hacc₃, hn₃, hP', ?_, (by rw [List.length_append, List.length_singleton]; exact hlt), (by rw [List.length_append, List.length_singleton]), fun b o hbC hbf hbD e => hk₃ b o (up₂ b o hbC hbf (hk b o hbC hbf hbD e)), htk₃⟩
      rw [List.filter_append]
      simpa [hpv] using paired_to (fun _ _ q => NewAt.keep q fun b o hb e => hk₃ b o (up₂ b o (hi' b hb).1 (hi' b hb).2.1 e)) hF
    | true =>
      simp only [if_true]
      refine wpAny_mono (wpAny_toks_of (n := s.toks) htk₃ (helt vs.length v _ _ hPv hpv hn₃ (by simp) (fun b o hbC hbf hbD e => hk₃ b o (up₂ b o hbC hbf (hk b o hbC hbf hbD e))) htk₃)) (fun y s₄ h₄ => ?_) fun _ _ e => e.2
      obtain ⟨htk₄, hFy, h₄, tk₄, rfl, hk₄⟩ := h₄
      have hys : ys.size ≤ sizeLine := by
        have e1 := hF.length
        have e2 : (vs.filter p).length ≤ vs.length := List.length_filter_le _ _
        have e4 : ys.toList.length = ys.size := by simp
        (first | lia | omega)
      refine wpAny_list_append_plain (hsz := hys) (hacc₃.at fun o e => hk₄ _ o e) fun h₅ hl₅ hs₅ => ?_
      refine ⟨n + 1 - (vs.length + 1), by (first | lia | omega), h₅, tk₄, _, ys.push y, vs ++ [v], rfl, ?_, hl₅, (hn₃.keeps hk₄).sameBut hs₅ (Ne.symm hDC'), hP', ?_, (by rw [List.length_append, List.length_singleton]; exact hlt), (by rw [List.length_append, List.length_singleton]),
        fun b o hbC hbf hbD e => hs₅.extBut b o hbD (hk₄ b o (hk₃ b o (up₂ b o hbC hbf (hk b o hbC hbf hbD e)))), htk₄⟩
      · have := W.frame _ _ h₅ hst₃ fun b hb o e => hs₅.extBut b o (fun h => hDf (h ▸ hb)) (hk₄ b o e)
        simpa using this
      · have hF' := paired_to (F' := NewAt cenv.locals G h₅) (fun _ _ q => NewAt.keep q fun b o hb e => hs₅.extBut b o (hi' b hb).2.2 (hk₄ b o (hk₃ b o (up₂ b o (hi' b hb).1 (hi' b hb).2.1 e)))) hF
        have hy' : NewAt cenv.locals G h₅ v y := NewAt.keep hFy fun b o hb e => hs₅.extBut b o (hi' b hb).2.2 e
        rw [List.filter_append]; simpa [hpv] using Paired.snoc hF' hy'
  · have hin : vs.length = n := by (first | lia | omega)
    refine W.done _ _ _ (hin ▸ hst') fun h₁ tk₁ hk₁ => ?_
    exact hR h₁ tk₁ m' ys vs (hn'.at' fun o e => hk₁ _ o hCw e) (hacc'.at fun o e => hk₁ _ o hDw e) hin hP (paired_to (fun _ _ q => NewAt.keep q fun b o hb e => hk₁ b o (hi' b hb).2.1 e) hF) fun b o hbC hbf hbD e => hk₁ b o hbf (hk b o hbC hbf hbD e)
end
section
variable {prog : Program} {w : World} {A : Around} {E : Value → Shared → Prop} {s s₀ : Shared} {h₀ : Heap} {env : Env} {ρ ρc : Rho} {Λ : List (Addr × Obj)}
/-- as CompK, where the elements are new objects -/
def CompN (prog : Program) (w : World) (A : Around) (s₀ : Shared) (h₀ : Heap) (env : Env) (ρ ρc : Rho) (Λ : List (Addr × Obj)) (scope : Scope) (x : Str) (ifs : List Expr) (elt : Expr) (p : Value → Bool) (G : Value → Obj → Prop) (Fin : Addr → Array Value → Nat → List Value → Prop) (it : Value) (s₂ : Shared) : Prop :=
  ∃ I fp wr n P St, it = .ref I ∧ Walks prog w A I fp wr n P St ∧ n ≤ sizeLine ∧ St 0 s₂.heap ∧ (∀ b ∈ fp, b < s₂.heap.objs.size) ∧ CS true s₀ h₀ env ρ Λ s₂ ∧ (∀ a ∈ wr, h₀.get? a = none) ∧ (∀ a ∈ wr, ¬ CS.own env Λ a) ∧
  (∀ C i v s₃ E', P i v → CS false s₃ h₀ (compEnvC scope (closGo env scope.names []) C env) ((x, some v) :: ρc) Λ s₃ →
    wpAny (model prog w) A (forIn ifs true fun c r => if r = true then do let ok ← isTrue c (compEnvC scope (closGo env scope.names []) C env) (eval c (compEnvC scope (closGo env scope.names []) C env)); pure (ForInStep.yield ok) else pure (ForInStep.yield r))
      (fun ok s₄ => ok = p v ∧ Keeps s₃ s₄) E' s₃) ∧
  (∀ C i v s₃ E', P i v → p v = true → CS false s₃ h₀ (compEnvC scope (closGo env scope.names []) C env) ((x, some v) :: ρc) Λ s₃ →
    wpAny (model prog w) A (eval elt (compEnvC scope (closGo env scope.names []) C env)) (fun y s₄ => NewAt C G s₄.heap v y ∧ Keeps s₃ s₄) E' s₃) ∧
  (∀ D k ys (vs : List Value), vs.length = n → (∀ j v, vs[j]? = some v → P j v) → s₂.heap.get? D = none → Fin D ys k (vs.filter p))
theorem block_new {elt iter : Expr} {x : Str} {px : Pos} {ifs : List Expr} {scope : Scope} {pos : Pos} {p : Value → Bool} {G : Value → Obj → Prop} {Fin : Addr → Array Value → Nat → List Value → Prop} {it : Value} {s₂ : Shared} {RR : Value → Addr → Result → Shared → Prop}
    (hfree : ∀ n, (n, NameKind.free) ∈ scope.names → ∃ c, env.cells.lookup n = some c) (hcell : ∀ y ∈ scope.names, y.2 ≠ .cell) (hkind : scope.kind = .function) (hx : scope.names.lookup x = some .local)
    (hc1 : ∀ y, y ∈ ρc.map (·.1) → scope.names.lookup y = some .free ∧ env.kindOf y = some .cell) (hc2 : ∀ y u, Look y u ρc → Look y u ρ) (hnd : ((x :: ρc.map (·.1))).Nodup)
    (h₂ : CompN prog w A s₀ h₀ env ρ ρc Λ scope x ifs elt p G Fin it s₂)
    (hRR : ∀ D C h' tk m' ys k vs (wr : List Addr), D < C → s₂.heap.objs.size ≤ D → h'.Ns C m' → h'.get? D = some (lst ys k) → CS true s₀ h₀ env ρ Λ s₂ → (∀ a ∈ wr, h₀.get? a = none) → (∀ a ∈ wr, ¬ CS.own env Λ a) → Fin D ys k vs → Paired (NewAt C G h') vs ys.toList →
      (∀ b o, b ∉ wr → s₂.heap.get? b = some o → h'.get? b = some o) → RR (.ref D) C (.ok .next) { s₂ with heap := h', toks := tk }) :
    wpAny (model prog w) A (newList []) (fun acc s₃ => wpAny (model prog w) A (newFunctionEnv scope env.globals (closGo env scope.names []) [] env.qual none .none (some env)) (fun cenv s₄ =>
      codeAny (model prog w) A (.compStart (.ListComp elt [⟨.Name x px, iter, ifs, 0⟩] scope pos) 0 it acc { cenv with scope := relabel scope env }) (RR acc cenv.locals) s₄) E s₃) E s₂ := by
  obtain ⟨I, fp, wr, n, P, St, rfl, W, hsz, hst, hfp, S, w1, w2, ht, he, hQ⟩ := h₂
  refine wpAny_newObj_type (hd := by size_fits) (wpAny_newFunctionEnv hcell (by intro y hy; simp at hy) (fun h₁ hns₁ hsb₁ => ?_) hkind)
  dsimp only at hns₁ hsb₁ ⊢
  generalize hH2 : s₂.heap.push { cls := .type "list", dict := none, data := .seq ([] : List Value).toArray } = H2 at hns₁ hsb₁ ⊢
  have hC : H2.objs.size = s₂.heap.objs.size + 1 := by rw [← hH2, Heap.size_push]
  have hDC : s₂.heap.objs.size ≠ H2.objs.size := by rw [hC]; exact Nat.ne_of_lt (Nat.lt_succ_self _)
  have hCle : s₂.heap.objs.size ≤ H2.objs.size := by rw [hC]; exact Nat.le_succ _
  have below : ∀ b, b < s₂.heap.objs.size → b ≠ H2.objs.size ∧ b ≠ s₂.heap.objs.size := fun b hb => ⟨by rw [hC]; exact Nat.ne_of_lt (Nat.lt_succ_of_lt hb), Nat.ne_of_lt hb⟩
  have hDf : s₂.heap.objs.size ∉ fp := fun hm => Nat.lt_irrefl _ (hfp _ hm)
  have old : ∀ b o, s₂.heap.get? b = some o → h₁.get? b = some o := fun b o e => hsb₁.extBut b o (below b (Heap.lt_size e)).1 (Heap.get?_push_of_some _ (hH2 ▸ Heap.get?_push_of_some _ e))
  have hacc : h₁.PlainList s₂.heap.objs.size #[] := ⟨_, hsb₁.extBut _ _ hDC (Heap.get?_push_of_some _ (hH2 ▸ Heap.get?_push_size _ rfl))⟩
  have hst₁ : St 0 h₁ := W.frame _ _ _ hst fun b _ o e => old b o e
  have loop : ∀ s₃ : Shared, s₃ = { s₂ with heap := h₁, toks := s₂.toks + ([] : List (Str × Value)).length } →
      codeAny (model prog w) A (.compLoop (.ListComp elt [⟨.Name x px, iter, ifs, 0⟩] scope pos) 0 (.ref I) (.ref s₂.heap.objs.size) (compEnvC scope (closGo env scope.names []) H2.objs.size env))
        (RR (.ref s₂.heap.objs.size) H2.objs.size) s₃ := by
    rintro s₃ rfl
    refine loop_new (hsz := hsz) (cenv := compEnvC scope (closGo env scope.names []) H2.objs.size env) W p G (lookup_relabel_local hx) (by simp [compEnvC, relabel, hkind]) (by show s₂.heap.objs.size < H2.objs.size; (first | lia | omega)) hDf (fun b hb => Nat.lt_of_lt_of_le (hfp b hb) hCle) hst₁ hacc hns₁
      (fun i v s₃ m₃ hv hn hm hk _ => ht _ i v s₃ _ hv (compCS S hCle hn hm (fun b o hbf e => hk b o (below b (Heap.lt_size e)).1 hbf (below b (Heap.lt_size e)).2 (old b o e)) w1 w2 hkind hx hfree hc1 hc2 hnd))
      (fun i v s₃ m₃ hv hpv hn hm hk _ => he _ i v s₃ _ hv hpv (compCS S hCle hn hm (fun b o hbf e => hk b o (below b (Heap.lt_size e)).1 hbf (below b (Heap.lt_size e)).2 (old b o e)) w1 w2 hkind hx hfree hc1 hc2 hnd))
      fun h' tk m' ys vs hn hpl hlen hP hF hk => ?_
    obtain ⟨k, hpl⟩ := hpl
    exact hRR _ _ h' tk m' ys k _ wr (by (first | lia | omega)) (Nat.le_refl _) hn hpl S w1 w2 (hQ _ k ys vs hlen hP (fresh_none (Nat.le_refl _))) hF fun b o hbf e => hk b o (below b (Heap.lt_size e)).1 hbf (below b (Heap.lt_size e)).2 (old b o e)
  exact codeAny_compStart_list (loop _ rfl) (W.self 0 _ _ _ hst₁ (loop _ rfl))
theorem x_lcN {elt iter : Expr} {x y : Str} {px py : Pos} {ifs : List Expr} {scope : Scope} {pos spos : Pos} {rest : List Stmt} {Q : Flow → Shared → Prop} (ρc : Rho) (p : Value → Bool) (G : Value → Obj → Prop)
    (hsw : swapsWith (.ListComp elt [⟨.Name x px, iter, ifs, 0⟩] scope pos) (some (.Name y py)) spos.line env = pure true)
    (_ : CS true s₀ h₀ env ρ Λ s) (hok : compOk scope env x (ρc.map (·.1)) = true) (hy : env.kindOf y = some .local) (hek : env.scope.kind = .function) (hc2 : Sel ρc ρ)
    (h : wpAny (model prog w) A (eval iter env) (fun xv s₁ => wpAny (model prog w) A (pyIter xv) (CompN prog w A s₀ h₀ env ρ ρc Λ scope x ifs elt p G
      (fun D ys k vs => ∃ ρ', Put y (.ref D) ρ ρ' ∧ ∀ h₁ s', Sub h₀ h₁ → Paired (NewIs G h₁) vs ys.toList → CS true s₀ h₁ env ρ' ((D, lst ys k) :: Λ) s' → wpAny (model prog w) A (execs rest env) Q E s')) E s₁) E s)
    (hs : ∀ x, foldedSetIterable iter env x = pure x) :
    wpAny (model prog w) A (execs (.Assign [.Name y py] (.ListComp elt [⟨.Name x px, iter, ifs, 0⟩] scope pos) spos :: rest) env) Q E s := by
  obtain ⟨h1, h2, h3, h4, h5, h6, h7⟩ := compOk_of hok
  refine wpAny_execs_cons ?_
  rw [exec_Assign_Name_used _ _ _ _ hsw]
  refine wpAny_bind (wpAny_standAt (wpAny_bind ?_))
  show wpAny _ A (do let _ ← comprehension (.ListComp elt [⟨.Name x px, iter, ifs, 0⟩] scope pos) scope env _ (newList []) false (eval iter env) (some (assign (.Name y py) env))) _ _ s
  refine wpAny_bind (wpAny_mono (wpAny_comprehension_free (use := some (assign (.Name y py) env)) (Q := fun _ s' => wpAny (model prog w) A (execs rest env) Q E s') rfl hs (closureFor_go h1) h3 h4
    (wpAny_mono h (fun xv s₁ h₁ => wpAny_mono h₁ (fun it s₂ h₂ => ?_) fun _ _ e => e) fun _ _ e => e)) (fun _ s' hq => wpAny_pure (wpAny_pure hq)) fun _ _ e => e)
  refine block_new (RR := fun acc C => compPost (model prog w) A E (some (assign (.Name y py) env)) (fun _ s' => wpAny (model prog w) A (execs rest env) Q E s') acc C) h1 h2 h3 h5 h6 hc2 h7 h₂ ?_
  intro D C h' tk m' ys k vs wr hDC hD hnC hpl S w1 w2 hF hN hk
  obtain ⟨m, hn, hm⟩ := S.ns
  have hLC : env.locals ≠ C := by rintro rfl; obtain ⟨o, _, _, ho, _⟩ := hn; have := lt_nat ho; dsimp only at this; (first | lia | omega)
  have hLD : env.locals ≠ D := by rintro rfl; obtain ⟨o, _, _, ho, _⟩ := hn; have := lt_nat ho; dsimp only at this; (first | lia | omega)
  have hLw : env.locals ∉ wr := fun q => w2 _ q (.inl rfl)
  show wpAny _ A (assign (.Name y py) env (.ref D)) _ _ _
  refine wpAny_assign_Name (wpAny_storeName_local hy (hn.at' fun o e => hk _ o hLw e) (fun h₂ hn₂ hs₂ => ?_) (by rw [hek]; rfl))
  refine ⟨m', hnC.sameBut hs₂ (Ne.symm hLC), fun h₃ hs₃ => ?_⟩
  obtain ⟨ρ', hput, hgo⟩ := hF
  have hDn : s₂.heap.get? D = none := fresh_none hD
  have hno : ¬ CS.own env Λ D := fun h => by obtain ⟨o', q⟩ := S.own_at h; rw [hDn] at q; cases q
  have hC' : ∀ n c, env.cells.lookup n = some c → c ∉ wr := fun n c e h => w2 _ h (.inr (.inl ⟨n, e⟩))
  have up : ∀ a o, a ≠ env.locals → a ∉ wr → s₂.heap.get? a = some o → h₃.get? a = some o := fun a o q1 q2 e => hs₃.extBut a o (by rintro rfl; have := lt_nat e; dsimp only at this; (first | lia | omega)) (hs₂.extBut a o q1 (hk a o q2 e))
  have hns₃ := hn₂.sameBut hs₃ hLC
  have hpl₃ : h₃.get? D = some (lst ys k) := hs₃.extBut D _ (Nat.ne_of_lt hDC) (hs₂.extBut D _ (Ne.symm hLD) hpl)
  have mk : CS true s₀ h₀ env ρ' ((D, lst ys k) :: Λ) { s₂ with heap := h₃, toks := tk + 1 } := by
    refine ⟨S.kind, ?_, fun a o e => up a o (fun q => ?_) (fun q => ?_) (S.base a o e), (fun q => nomatch q), ⟨_, hns₃, fun z u hz hl => ?_⟩, fun z u c hz hl hc => ?_, fun n c e => ?_, S.apart, fun z hz => S.kinds z (hput.names ▸ hz), S.locs, hput.names ▸ S.nd, fun q hq => ?_, ?_⟩
    · obtain ⟨h, t, rfl⟩ := S.same; exact ⟨h₃, _, rfl⟩
    · rw [q, S.locs rfl] at e; cases e
    · rw [w1 a q] at e; cases e
    · rcases hput.look S.nd hz with ⟨rfl, rfl⟩ | ⟨q1, q2⟩
      · exact if_pos rfl
      · exact (if_neg q1).trans (hm z u q2 hl)
    · rcases hput.look S.nd hz with ⟨rfl, rfl⟩ | ⟨q1, q2⟩
      · rw [hy] at hl; cases hl
      · obtain ⟨o, e, r⟩ := S.cell z u c q2 hl hc
        exact ⟨o, up _ o (S.cells z c hc).2.1 (hC' z c hc) e, r⟩
    · obtain ⟨⟨u, o, e', r'⟩, r⟩ := S.cells n c e
      exact ⟨⟨u, o, up _ o r.1 (hC' n c e) e', r'⟩, r⟩
    · rcases List.mem_cons.mp hq with rfl | hq
      · exact ⟨hpl₃, Ne.symm hLD, fun n q => hno (.inr (.inl ⟨n, q⟩)), fun _ => S.base.none hDn⟩
      · obtain ⟨a, b, r⟩ := S.led q hq
        exact ⟨up _ _ b (fun h => w2 _ h (.inr (.inr (List.mem_map_of_mem hq)))) a, b, r⟩
    · rw [List.map_cons, List.nodup_cons]
      exact ⟨fun h => hno (.inr (.inr h)), S.lnd⟩
  obtain ⟨h₅, k1, S₅, k3⟩ := mk.wide
  refine hgo h₅ _ k1 (paired_to (fun v z q => ?_) hN) S₅
  obtain ⟨T, o, rfl, q1, q2, q3⟩ := q
  have q1' : (show Nat from C) < T := q1
  dsimp only at q1'
  refine ⟨T, o, rfl, k3 T o (hs₃.extBut T o (Nat.ne_of_gt q1) (hs₂.extBut T o ?_ q2)) ?_, q3⟩
  · rintro rfl
    obtain ⟨o, _, _, ho, _⟩ := hn; have := lt_nat ho; dsimp only at this; (first | lia | omega)
  · intro q
    have : CS.own env Λ T ∨ T = D := by
      rcases q with q | q | q
      · exact .inl (.inl q)
      · exact .inl (.inr (.inl q))
      · rcases List.mem_cons.mp q with q | q
        · exact .inr q
        · exact .inl (.inr (.inr q))
    rcases this with q | q
    · obtain ⟨o', z⟩ := S.own_at q
      have := lt_nat z; dsimp only at this; (first | lia | omega)
    · exact absurd (q ▸ q1' : (show Nat from C) < D) (by dsimp only; (first | lia | omega))
theorem comp_itN {scope : Scope} {x : Str} {ifs : List Expr} {elt : Expr} {p : Value → Bool} {G : Value → Obj → Prop} {Fin : Addr → Array Value → Nat → List Value → Prop} {it : Value} {n : Nat} {P : Nat → Value → Prop} (I : It prog w A s₀ h₀ env ρ Λ n P it s) (hn : n ≤ 16777216)
    (ht : ∀ C i v s₃ E', i < n → P i v → CS false s₃ h₀ (compEnvC scope (closGo env scope.names []) C env) ((x, some v) :: ρc) Λ s₃ →
      wpAny (model prog w) A (forIn ifs true fun c r => if r = true then do let ok ← isTrue c (compEnvC scope (closGo env scope.names []) C env) (eval c (compEnvC scope (closGo env scope.names []) C env)); pure (ForInStep.yield ok) else pure (ForInStep.yield r))
        (fun ok s₄ => ok = p v ∧ Keeps s₃ s₄) E' s₃)
    (he : ∀ C i v s₃ E', i < n → P i v → p v = true → CS false s₃ h₀ (compEnvC scope (closGo env scope.names []) C env) ((x, some v) :: ρc) Λ s₃ →
      wpAny (model prog w) A (eval elt (compEnvC scope (closGo env scope.names []) C env)) (fun y s₄ => NewAt C G s₄.heap v y ∧ Keeps s₃ s₄) E' s₃)
    (fin : ∀ D k ys (vs : List Value), vs.length = n → (∀ j v, vs[j]? = some v → P j v) → s.heap.get? D = none → Fin D ys k (vs.filter p)) :
    CompN prog w A s₀ h₀ env ρ ρc Λ scope x ifs elt p G Fin it s := by
  obtain ⟨I, fp, wr, St, rfl, W, hst, hfp, hwr, hown, S⟩ := I
  have W' : Walks prog w A I fp wr n (fun i v => i < n ∧ P i v) St := ⟨W.sub, W.frame, fun i s Q E hi st hQ => W.item i s Q E hi st fun v h' tk hP => hQ v h' tk ⟨hi, hP⟩, W.done, W.self⟩
  exact ⟨I, fp, wr, n, (fun i v => i < n ∧ P i v), St, rfl, W', by rw [sizeLine_eq]; exact hn, hst, hfp, S, hwr, fun a ha => hown a (W.sub a ha), fun C i v s₃ E' h => ht C i v s₃ E' h.1 h.2, fun C i v s₃ E' h => he C i v s₃ E' h.1 h.2,
    fun D k ys vs h1 h2 => fin D k ys vs h1 fun j v hv => (h2 j v hv).2⟩
theorem u_newC {b : Bool} {vs : List Value} {Q : Value → Shared → Prop} (S : CS b s₀ h₀ env ρ Λ s) (hn : vs.length ≤ 16777216) (h : ∀ l s', CS b s₀ h₀ env ρ ((l, tup vs.toArray) :: Λ) s' → env.locals < l → Q (.ref l) s') : wpAny (model prog w) A (newTuple vs) Q E s := by
  obtain ⟨m, ⟨o, _, _, ho, _⟩, _⟩ := S.ns
  exact wpAny_newObj_type (h _ _ (S.pushL _ _ rfl) (Heap.lt_size ho)) (by show vs.toArray.size ≤ sizeLine; rw [sizeLine_eq, List.size_toArray]; exact hn)
end
end Fl

namespace Fl
open PySem PySem.W PySem.Calls PyProof.Rows
/-- the way's cells covered anew, two by two, each with its mate -/
structure Onv (may : Int → Int → Bool) (m : Mp Int) (W : List Int) (i : Nat) (m' : Mp Int) : Prop where
  lay : LayM may m'
  out : ∀ x, x ∉ W → mget m' x = mget m x
  off : ∀ j x, 2 * i ≤ j → W[j]? = some x → mget m' x = none
  on : ∀ j a b, j < i → W[2 * j]? = some a → W[2 * j + 1]? = some b → mget m' a = some b ∧ mget m' b = some a
section
variable {may : Int → Int → Bool} {sh : Int → Int} {m m' m1 m2 : Mp Int} {W : List Int} {i k : Nat} {a b : Int}
theorem Off.onv (o : Off may m W W W.length m') : Onv may m W 0 m' :=
  ⟨o.lay, o.out, fun j x _ h => o.off x (by rw [List.take_length]; exact List.mem_of_getElem? h), fun j a b h => absurd h (Nat.not_lt_zero _)⟩
theorem Onv.put (g : Gph may sh) (nd : W.Nodup) (o : Onv may m W i m') (ha : W[2 * i]? = some a) (hb : W[2 * i + 1]? = some b) (hm : may a b = true) : Onv may m W (i + 1) (mput (mput m' a b) b a) := by
  have na := o.off (2 * i) a (Nat.le_refl _) ha
  have nb := o.off (2 * i + 1) b (by (first | lia | omega)) hb
  have hne := g.ne hm
  refine ⟨o.lay.put g hm na nb, fun x hx => ?_, fun j x hj hx => ?_, fun j x y hj hx hy => ?_⟩
  · have x1 : x ≠ b := fun e => hx (e ▸ List.mem_of_getElem? hb)
    have x2 : x ≠ a := fun e => hx (e ▸ List.mem_of_getElem? ha)
    rw [mget_mput, mget_mput, if_neg x1, if_neg x2]; exact o.out x hx
  · have x1 : x ≠ b := fun e => by have := nodup_get nd hx (e ▸ hb); (first | lia | omega)
    have x2 : x ≠ a := fun e => by have := nodup_get nd hx (e ▸ ha); (first | lia | omega)
    rw [mget_mput, mget_mput, if_neg x1, if_neg x2]; exact o.off j x (by (first | lia | omega)) hx
  · by_cases e : j = i
    · subst e
      rw [ha] at hx; cases hx
      rw [hb] at hy; cases hy
      rw [mget_mput, mget_mput, mget_mput, mget_mput, if_neg hne, if_pos rfl, if_pos rfl]
      exact ⟨rfl, rfl⟩
    · have x1 : x ≠ b := fun e => by have := nodup_get nd hx (e ▸ hb); (first | lia | omega)
      have x2 : x ≠ a := fun e => by have := nodup_get nd hx (e ▸ ha); (first | lia | omega)
      have y1 : y ≠ b := fun e => by have := nodup_get nd hy (e ▸ hb); (first | lia | omega)
      have y2 : y ≠ a := fun e => by have := nodup_get nd hy (e ▸ ha); (first | lia | omega)
      rw [mget_mput, mget_mput, mget_mput, mget_mput, if_neg x1, if_neg x2, if_neg y1, if_neg y2]
      exact o.on j x y (by (first | lia | omega)) hx hy
theorem Onv.same (o : Onv may m W k m1) (o' : Onv may m W k m2) (hk : W.length / 2 = k) : ∀ x, mget m1 x = mget m2 x := fun x => by
  by_cases hx : x ∈ W
  · obtain ⟨j, hj⟩ := List.getElem?_of_mem hx
    obtain ⟨hlt, _⟩ := List.getElem?_eq_some_iff.mp hj
    by_cases q : 2 * k ≤ j
    · rw [o.off j x q hj, o'.off j x q hj]
    · obtain ⟨y, hy⟩ : ∃ y, W[2 * (j / 2)]? = some y := ⟨_, List.getElem?_eq_getElem (by (first | lia | omega))⟩
      obtain ⟨z, hz⟩ : ∃ y, W[2 * (j / 2) + 1]? = some y := ⟨_, List.getElem?_eq_getElem (by (first | lia | omega))⟩
      have r1 := o.on (j / 2) y z (by (first | lia | omega)) hy hz
      have r2 := o'.on (j / 2) y z (by (first | lia | omega)) hy hz
      by_cases e : j = 2 * (j / 2)
      · have : x = y := Option.some.inj ((e ▸ hj).symm.trans hy)
        rw [this, r1.1, r2.1]
      · have e' : j = 2 * (j / 2) + 1 := by (first | lia | omega)
        have : x = z := Option.some.inj ((e' ▸ hj).symm.trans hz)
        rw [this, r1.2, r2.2]
  · rw [o.out x hx, o'.out x hx]
/-- a way that the law goes from a bare cell on -/
structure Gon (may : Int → Int → Bool) (has : Int → Bool) (m : Mp Int) (W : List Int) : Prop where
  nd : W.Nodup
  cl : ∀ x ∈ W, ∀ v, mget m x = some v → v ∈ W
  two : ∀ i a b, W[2 * i]? = some a → W[2 * i + 1]? = some b → may a b = true
  cel : ∀ x ∈ W, has x = true
theorem Gon.one {has : Int → Bool} {c : Int} (hc : has c = true) (hn : mget m c = none) : Gon may has m [c] := by
  refine ⟨by simp, fun x hx v hv => ?_, fun i a b _ h => by simp at h, fun x hx => by rw [List.mem_singleton.mp hx]; exact hc⟩
  rw [List.mem_singleton.mp hx, hn] at hv; cases hv
theorem Gon.bare {has : Int → Bool} {n : Int} (w : Gon may has m W) (ho : W.length % 2 = 1) (ha : W.getLast? = some a) (hm : may a n = true) (hn : n ∉ W) (hb : mget m n = none) (hh : has n = true) : Gon may has m (W ++ [n]) := by
  have hla : W[W.length - 1]? = some a := by rw [← List.getLast?_eq_getElem?]; exact ha
  refine ⟨?_, fun x hx v hv => ?_, fun i x y h1 h2 => ?_, fun x hx => ?_⟩
  · rw [List.nodup_append]
    refine ⟨w.nd, by simp, fun x hx y hy e => hn ?_⟩
    rw [List.mem_singleton.mp hy] at e
    exact e ▸ hx
  · rcases List.mem_append.mp hx with q | q
    · exact List.mem_append_left _ (w.cl x q v hv)
    · rw [List.mem_singleton.mp q, hb] at hv; cases hv
  · rw [List.getElem?_append] at h1 h2
    split at h1
    · split at h2
      · exact w.two i x y h1 h2
      · have e : 2 * i = W.length - 1 := by (first | lia | omega)
        rw [e] at h1
        rw [show 2 * i + 1 - W.length = 0 by (first | lia | omega)] at h2
        simp at h2
        rw [hla] at h1
        cases h1
        exact h2 ▸ hm
    · split at h2
      · (first | lia | omega)
      · have : 2 * i + 1 - W.length = (2 * i - W.length) + 1 := by (first | lia | omega)
        rw [this] at h2
        simp at h2
  · rcases List.mem_append.mp hx with q | q
    · exact w.cel x q
    · rw [List.mem_singleton.mp q]; exact hh
theorem Gon.cov {has : Int → Bool} {n v : Int} (g : Gph may sh) (L : LayM may m) (w : Gon may has m W) (ho : W.length % 2 = 1) (ha : W.getLast? = some a) (hm : may a n = true) (hn : n ∉ W) (hv : mget m n = some v) (hh : has n = true) (hh' : has v = true) : Gon may has m (W ++ [n] ++ [v]) := by
  have hla : W[W.length - 1]? = some a := by rw [← List.getLast?_eq_getElem?]; exact ha
  obtain ⟨hvn, hmv⟩ := L.inv n v hv
  have hne := g.ne hmv
  have hvW : v ∉ W := fun q => hn (w.cl v q n hvn)
  rw [List.append_assoc]
  show Gon may has m (W ++ [n, v])
  refine ⟨?_, fun x hx u hu => ?_, fun i x y h1 h2 => ?_, fun x hx => ?_⟩
  · rw [List.nodup_append]
    refine ⟨w.nd, by simp [hne], fun x hx y hy e => ?_⟩
    simp at hy
    rcases hy with rfl | rfl
    · exact hn (e ▸ hx)
    · exact hvW (e ▸ hx)
  · rcases List.mem_append.mp hx with q | q
    · exact List.mem_append_left _ (w.cl x q u hu)
    · simp at q
      rcases q with rfl | rfl
      · rw [hv] at hu; cases hu; simp
      · rw [hvn] at hu; cases hu; simp
  · rw [List.getElem?_append] at h1 h2
    split at h1
    · split at h2
      · exact w.two i x y h1 h2
      · have e : 2 * i = W.length - 1 := by (first | lia | omega)
        rw [e] at h1
        rw [show 2 * i + 1 - W.length = 0 by (first | lia | omega)] at h2
        simp at h2
        rw [hla] at h1
        cases h1
        exact h2 ▸ hm
    · split at h2
      · (first | lia | omega)
      · have : 2 * i + 1 - W.length = (2 * i - W.length) + 1 := by (first | lia | omega)
        rw [this] at h2
        have z : 2 * i - W.length ≠ 0 := by (first | lia | omega)
        obtain ⟨q, hq⟩ := Nat.exists_eq_succ_of_ne_zero z
        rw [hq] at h2
        simp at h2
  · rcases List.mem_append.mp hx with q | q
    · exact w.cel x q
    · simp at q
      rcases q with rfl | rfl
      · exact hh
      · exact hh'
theorem perm_sorted {ks ks' : List Int} (p : ks.Perm ks') (h : ks.Pairwise (· ≤ ·)) (h' : ks'.Pairwise (· ≤ ·)) : ks = ks' := p.eq_of_pairwise (fun a b _ _ x y => Int.le_antisymm x y) h h'
theorem mget_nil {m' : Mp Int} (h : ∀ x, mget m' x = none) : m' = [] := by
  cases m' with
  | nil => rfl
  | cons p r =>
    have := h p.1
    simp [mget] at this
end
/-- the heap but for a cell that it does not hold -/
theorem sub_wo {h B : Heap} {d : Addr} (k : Sub h B) (hd : h.get? d = none) : Sub h (without B (· = d)) := fun a o e => by
  by_cases q : a = d
  · subst q; rw [hd] at e; cases e
  · exact without_get q (k _ _ e)
theorem ints_snoc : ∀ {vs : List Value} {ns : List Int}, IntsAre vs ns → ∀ (n : Int) (t : Tok), IntsAre (vs ++ [.int n t]) (ns ++ [n])
  | _, _, .nil, n, t => .cons n t .nil
  | _, _, .cons a b r, n, t => .cons a b (ints_snoc r n t)
end Fl

namespace Fl
open PySem PySem.W PySem.Calls PyProof.Rows PyProof.V
section
variable {prog : Program} {w : World} {A : Around} {E : Value → Shared → Prop} {s s' s₀ : Shared} {h₀ h₁ : Heap} {env : Env} {ρ ρ' : Rho} {Λ Λ' : List (Addr × Obj)} {b : Bool}
/-- range(0, n, 2) -/
theorem r_range2 {n : Int} {t u v : Tok} {Q : Value → Shared → Prop} (S : CS b s₀ h₀ env ρ Λ s) (hn : -1000 ≤ n) (hn' : n ≤ 1000) (h : ∀ r t₁ u₁ v₁ s', IsRange s'.heap r 0 n 2 t₁ u₁ v₁ → CS b s₀ h₀ env ρ Λ s' → Q (.ref r) s') : wpAny (model prog w) A (call (.type "range") [.int 0 u, .int n t, .int 2 v]) Q E s :=
  PySem.call_range_3 (by decide) (h _ _ _ _ _ (Heap.get?_push_size _ rfl) (S.pushK _ _)) (.inl (PyProof.noPylong_small (by (first | lia | omega))))
theorem it_range2 {r : Addr} {n : Int} {c : Nat} {t u v : Tok} {Q : Value → Shared → Prop} (S : CS true s₀ h₀ env ρ Λ s) (hh : A.handled = none) (hr : IsRange s.heap r 0 n 2 t u v) (hn : -1000 ≤ n) (hn' : n ≤ 1000) (hc : (c : Int) = if 0 < n then (n - 1) / 2 + 1 else 0)
    (h : ∀ it s', It prog w A s₀ h₀ env ρ Λ c (fun i v => ∃ t, v = .int (2 * (i : Int)) t) it s' → Q it s') : wpAny (model prog w) A (pyIter (.ref r)) Q E s := by
  have e : Builtin.Range.rangeSize 0 n 2 = (c : Int) := by
    unfold Builtin.Range.rangeSize
    rw [if_pos (by decide), hc, Int.sub_zero]
  have hsm : Builtin.Range.small 0 n 2 = true := by
    unfold Builtin.Range.small
    rw [e]
    simp only [Builtin.Range.rangeFitsLong, Bool.and_eq_true, Bool.or_eq_true, decide_eq_true_eq, beq_iff_eq, show (2 : Int) > 0 by decide, if_true]
    split at hc <;> (first | lia | omega)
  refine wpAny_pyIter_range hr hsm (h _ _ ⟨s.heap.objs.size, [s.heap.objs.size], [s.heap.objs.size], (fun i h => IsRangeIter h s.heap.objs.size (0 + (i : Nat) * 2) ((c : Int) - (i : Nat)) 2), rfl, ?W, ?st, ?_, ?_, ?_, S.pushK _ _⟩)
  case W =>
    have := Walks.range (prog := prog) (w := w) hh s.heap.objs.size 0 2 c
    exact ⟨this.sub, this.frame, fun i s Q E hi st hQ => this.item i s Q E hi st fun v h' tk hP => hQ v h' tk (by obtain ⟨t, e⟩ := hP; exact ⟨t, by rw [e]; congr 1; (first | lia | omega)⟩), this.done, this.self⟩
  case st =>
    show IsRangeIter _ _ _ _ _
    rw [e]
    have : (0 : Int) + ((0 : Nat) : Int) * 2 = 0 := by (first | lia | omega)
    rw [this]
    have : (c : Int) - ((0 : Nat) : Int) = (c : Int) := by (first | lia | omega)
    rw [this]
    exact Heap.get?_push_size _ rfl
  · intro a ha
    rw [List.mem_singleton.mp ha, Heap.size_push]; exact Nat.lt_succ_self _
  · intro a ha
    rw [List.mem_singleton.mp ha]
    exact S.base.none (fresh_none (Nat.le_refl _))
  · intro a ha ho'
    rw [List.mem_singleton.mp ha] at ho'
    obtain ⟨o', q⟩ := S.own_at ho'
    exact absurd (Heap.lt_size q) (Nat.lt_irrefl _)
end
end Fl

set_option maxRecDepth 100000
set_option Elab.async false
set_option autoImplicit false
set_option linter.all false
set_option maxHeartbeats 8000000
namespace Fl
open PySem PySem.W PySem.Calls PyProof.Rows

section
variable {ρ : Rho} {Λ : List (Addr × Obj)} {G : Prop}
theorem jE3 {τ1 τ2 τ3 : Type} {R : τ1 → τ2 → τ3 → Rho} {L : τ1 → τ2 → τ3 → List (Addr × Obj)} {P : τ1 → τ2 → τ3 → Prop} (h : ∃ a b c, ρ = R a b c ∧ Λ = L a b c ∧ P a b c) (k : ∀ a b c, ρ = R a b c → Λ = L a b c → P a b c → G) : G := by
  obtain ⟨a, b, c, e1, e2, p⟩ := h; exact k a b c e1 e2 p
theorem jI3 {τ1 τ2 τ3 : Type} {R : τ1 → τ2 → τ3 → Rho} {L : τ1 → τ2 → τ3 → List (Addr × Obj)} {P : τ1 → τ2 → τ3 → Prop} (a : τ1) (b : τ2) (c : τ3) (e1 : ρ = R a b c) (e2 : Λ = L a b c) (p : P a b c) : ∃ a b c, ρ = R a b c ∧ Λ = L a b c ∧ P a b c := ⟨a, b, c, e1, e2, p⟩
theorem jE4 {τ1 τ2 τ3 τ4 : Type} {R : τ1 → τ2 → τ3 → τ4 → Rho} {L : τ1 → τ2 → τ3 → τ4 → List (Addr × Obj)} {P : τ1 → τ2 → τ3 → τ4 → Prop} (h : ∃ a b c d, ρ = R a b c d ∧ Λ = L a b c d ∧ P a b c d) (k : ∀ a b c d, ρ = R a b c d → Λ = L a b c d → P a b c d → G) : G := by
  obtain ⟨a, b, c, d, e1, e2, p⟩ := h; exact k a b c d e1 e2 p
theorem jI4 {τ1 τ2 τ3 τ4 : Type} {R : τ1 → τ2 → τ3 → τ4 → Rho} {L : τ1 → τ2 → τ3 → τ4 → List (Addr × Obj)} {P : τ1 → τ2 → τ3 → τ4 → Prop} (a : τ1) (b : τ2) (c : τ3) (d : τ4) (e1 : ρ = R a b c d) (e2 : Λ = L a b c d) (p : P a b c d) : ∃ a b c d, ρ = R a b c d ∧ Λ = L a b c d ∧ P a b c d := ⟨a, b, c, d, e1, e2, p⟩
theorem jE5 {τ1 τ2 τ3 τ4 τ5 : Type} {R : τ1 → τ2 → τ3 → τ4 → τ5 → Rho} {L : τ1 → τ2 → τ3 → τ4 → τ5 → List (Addr × Obj)} {P : τ1 → τ2 → τ3 → τ4 → τ5 → Prop} (h : ∃ a b c d e, ρ = R a b c d e ∧ Λ = L a b c d e ∧ P a b c d e) (k : ∀ a b c d e, ρ = R a b c d e → Λ = L a b c d e → P a b c d e → G) : G := by
  obtain ⟨a, b, c, d, e, e1, e2, p⟩ := h; exact k a b c d e e1 e2 p
theorem jI5 {τ1 τ2 τ3 τ4 τ5 : Type} {R : τ1 → τ2 → τ3 → τ4 → τ5 → Rho} {L : τ1 → τ2 → τ3 → τ4 → τ5 → List (Addr × Obj)} {P : τ1 → τ2 → τ3 → τ4 → τ5 → Prop} (a : τ1) (b : τ2) (c : τ3) (d : τ4) (e : τ5) (e1 : ρ = R a b c d e) (e2 : Λ = L a b c d e) (p : P a b c d e) : ∃ a b c d e, ρ = R a b c d e ∧ Λ = L a b c d e ∧ P a b c d e := ⟨a, b, c, d, e, e1, e2, p⟩
theorem jE6 {τ1 τ2 τ3 τ4 τ5 τ6 : Type} {R : τ1 → τ2 → τ3 → τ4 → τ5 → τ6 → Rho} {L : τ1 → τ2 → τ3 → τ4 → τ5 → τ6 → List (Addr × Obj)} {P : τ1 → τ2 → τ3 → τ4 → τ5 → τ6 → Prop} (h : ∃ a b c d e f, ρ = R a b c d e f ∧ Λ = L a b c d e f ∧ P a b c d e f) (k : ∀ a b c d e f, ρ = R a b c d e f → Λ = L a b c d e f → P a b c d e f → G) : G := by
  obtain ⟨a, b, c, d, e, f, e1, e2, p⟩ := h; exact k a b c d e f e1 e2 p
theorem jI6 {τ1 τ2 τ3 τ4 τ5 τ6 : Type} {R : τ1 → τ2 → τ3 → τ4 → τ5 → τ6 → Rho} {L : τ1 → τ2 → τ3 → τ4 → τ5 → τ6 → List (Addr × Obj)} {P : τ1 → τ2 → τ3 → τ4 → τ5 → τ6 → Prop} (a : τ1) (b : τ2) (c : τ3) (d : τ4) (e : τ5) (f : τ6) (e1 : ρ = R a b c d e f) (e2 : Λ = L a b c d e f) (p : P a b c d e f) : ∃ a b c d e f, ρ = R a b c d e f ∧ Λ = L a b c d e f ∧ P a b c d e f := ⟨a, b, c, d, e, f, e1, e2, p⟩
theorem jF1 {τ1 : Type} {R : τ1 → Rho} {L : List (Addr × Obj)} (h : (∃ a, ρ = R a) ∧ Λ = L) (k : ∀ a, ρ = R a → Λ = L → G) : G := by
  obtain ⟨⟨a, e1⟩, e2⟩ := h; exact k a e1 e2
theorem jH1 {τ1 : Type} {R : τ1 → Rho} {L : List (Addr × Obj)} (a : τ1) (e1 : ρ = R a) (e2 : Λ = L) : (∃ a, ρ = R a) ∧ Λ = L := ⟨⟨a, e1⟩, e2⟩
theorem jF2 {τ1 τ2 : Type} {R : τ1 → τ2 → Rho} {L : List (Addr × Obj)} (h : (∃ a b, ρ = R a b) ∧ Λ = L) (k : ∀ a b, ρ = R a b → Λ = L → G) : G := by
  obtain ⟨⟨a, b, e1⟩, e2⟩ := h; exact k a b e1 e2
theorem jH2 {τ1 τ2 : Type} {R : τ1 → τ2 → Rho} {L : List (Addr × Obj)} (a : τ1) (b : τ2) (e1 : ρ = R a b) (e2 : Λ = L) : (∃ a b, ρ = R a b) ∧ Λ = L := ⟨⟨a, b, e1⟩, e2⟩
theorem jX3 {τ : Type} {P Q R : τ → Prop} (h : ∃ a, P a ∧ Q a ∧ R a) (k : ∀ a, P a → Q a → R a → G) : G := by
  obtain ⟨a, b, c, d⟩ := h; exact k a b c d
theorem jDt {α : Type} {x : α} [Decidable (x = x)] {A B : Prop} (h : A) : if decide (x = x) = true then A else B := by rw [decide_eq_true rfl]; exact h
theorem jDn {α : Type} {x : α} [Decidable (x = x)] {A B : Prop} (h : B) : if (!decide (x = x)) = true then A else B := by rw [decide_eq_true rfl]; exact h
theorem jSt {α : Type} {x : α} {A B : Prop} (h : A) : if (some x).isSome = true then A else B := h
theorem jSn {α : Type} {x : α} {A B : Prop} (h : B) : if (!(some x).isSome) = true then A else B := h
theorem jNt {α : Type} {A B : Prop} (h : B) : if (none : Option α).isSome = true then A else B := h
theorem jNn {α : Type} {A B : Prop} (h : A) : if (!(none : Option α).isSome) = true then A else B := h
theorem jBt {b : Bool} {A B : Prop} (e : b = true) (h : A) : if b = true then A else B := by rw [e]; exact h
theorem jBf {b : Bool} {A B : Prop} (e : b = false) (h : B) : if b = true then A else B := by rw [e]; exact h
theorem jBn {b : Bool} {A B : Prop} (e : b = true) (h : B) : if (!b) = true then A else B := by rw [e]; exact h
theorem jBm {b : Bool} {A B : Prop} (e : b = false) (h : A) : if (!b) = true then A else B := by rw [e]; exact h
theorem jY1 {τ : Type} {P : τ → Prop} (h : ∃ a, P a) (k : ∀ a, P a → G) : G := h.elim k
theorem jY2 {τ σ : Type} {P Q : τ → σ → Prop} (h : ∃ a b, P a b ∧ Q a b) (k : ∀ a b, P a b → Q a b → G) : G := by
  obtain ⟨a, b, c, d⟩ := h; exact k a b c d
end
theorem fill : PySem.Challenge.rw_uf030040_07 = PySem.Challenge.rw_uf030040_07 ∧ Fl.kH = Fl.kH := by
  k_fill
  exact ⟨rfl, rfl⟩
theorem gb_len (w : World) : GB (Fl.kH w.params) (Str.ofString "len") (.builtin "len") := ⟨by kernel_rfl, by kernel_rfl, by decide +kernel, by kernel_rfl⟩
theorem gb_min (w : World) : GB (Fl.kH w.params) (Str.ofString "min") (.builtin "min") := ⟨by kernel_rfl, by kernel_rfl, by decide +kernel, by kernel_rfl⟩
theorem gb_max (w : World) : GB (Fl.kH w.params) (Str.ofString "max") (.builtin "max") := ⟨by kernel_rfl, by kernel_rfl, by decide +kernel, by kernel_rfl⟩
theorem gb_abs (w : World) : GB (Fl.kH w.params) (Str.ofString "abs") (.builtin "abs") := ⟨by kernel_rfl, by kernel_rfl, by decide +kernel, by kernel_rfl⟩
theorem gb_isi (w : World) : GB (Fl.kH w.params) (Str.ofString "isinstance") (.builtin "isinstance") := ⟨by kernel_rfl, by kernel_rfl, by decide +kernel, by kernel_rfl⟩
theorem gb_range (w : World) : GB (Fl.kH w.params) (Str.ofString "range") (.type "range") := ⟨by kernel_rfl, by kernel_rfl, by decide +kernel, by kernel_rfl⟩
theorem gb_list (w : World) : GB (Fl.kH w.params) (Str.ofString "list") (.type "list") := ⟨by kernel_rfl, by kernel_rfl, by decide +kernel, by kernel_rfl⟩
theorem gb_int (w : World) : GB (Fl.kH w.params) (Str.ofString "int") (.type "int") := ⟨by kernel_rfl, by kernel_rfl, by decide +kernel, by kernel_rfl⟩
theorem gb_bool (w : World) : GB (Fl.kH w.params) (Str.ofString "bool") (.type "bool") := ⟨by kernel_rfl, by kernel_rfl, by decide +kernel, by kernel_rfl⟩
theorem gs_ALONG (w : World) : GS (Fl.kH w.params) (Str.ofString "ALONG") ⟨#[46, 45]⟩ := ⟨by kernel_rfl, by kernel_rfl⟩
theorem gs_ACROSS (w : World) : GS (Fl.kH w.params) (Str.ofString "ACROSS") ⟨#[46, 124]⟩ := ⟨by kernel_rfl, by kernel_rfl⟩
theorem gs_SIGNS (w : World) : GS (Fl.kH w.params) (Str.ofString "SIGNS") ⟨#[46, 45, 124, 35]⟩ := ⟨by kernel_rfl, by kernel_rfl⟩
theorem gi_MOST (w : World) : GI (Fl.kH w.params) (Str.ofString "MOST") 12 := ⟨by kernel_rfl, by kernel_rfl⟩
theorem gf_sizes (w : World) : GF (Fl.kH w.params) (Str.ofString "look_at_sizes") 132 := ⟨by kernel_rfl, by kernel_rfl, by kernel_rfl⟩
theorem st_rows (w : World) : storeIn (Fl.kH w.params) 189 (Str.ofString "rows") = true := by kernel_rfl
theorem fi_rows (w : World) : fieldIn (Fl.kH w.params) 189 (Str.ofString "rows") = true := by kernel_rfl
theorem fi_high (w : World) : fieldIn (Fl.kH w.params) 189 (Str.ofString "high") = true := by kernel_rfl
theorem fi_wide (w : World) : fieldIn (Fl.kH w.params) 189 (Str.ofString "wide") = true := by kernel_rfl
theorem me_sign_of (w : World) : methIn (Fl.kH w.params) 189 (Str.ofString "sign_of") 153 = true := by kernel_rfl
theorem mk_sign_of (w : World) : keepIn (Fl.kH w.params) (.ref 153) = true := methIn_keep (me_sign_of w)
theorem me_has (w : World) : methIn (Fl.kH w.params) 189 (Str.ofString "has") 160 = true := by kernel_rfl
theorem mk_has (w : World) : keepIn (Fl.kH w.params) (.ref 160) = true := methIn_keep (me_has w)
theorem me_may (w : World) : methIn (Fl.kH w.params) 189 (Str.ofString "may") 179 = true := by kernel_rfl
theorem mk_may (w : World) : keepIn (Fl.kH w.params) (.ref 179) = true := methIn_keep (me_may w)
theorem me_cells (w : World) : methIn (Fl.kH w.params) 189 (Str.ofString "cells") 165 = true := by kernel_rfl
theorem mk_cells (w : World) : keepIn (Fl.kH w.params) (.ref 165) = true := methIn_keep (me_cells w)
theorem gf_cell_at (w : World) : GF (Fl.kH w.params) (Str.ofString "_law_cell_at") 261 := ⟨by kernel_rfl, by kernel_rfl, by kernel_rfl⟩
theorem gf_number (w : World) : GF (Fl.kH w.params) (Str.ofString "_law_number") 268 := ⟨by kernel_rfl, by kernel_rfl, by kernel_rfl⟩
theorem gf_rows (w : World) : GF (Fl.kH w.params) (Str.ofString "_law_rows") 273 := ⟨by kernel_rfl, by kernel_rfl, by kernel_rfl⟩
theorem gf_cells (w : World) : GF (Fl.kH w.params) (Str.ofString "_law_cells") 285 := ⟨by kernel_rfl, by kernel_rfl, by kernel_rfl⟩
theorem gf_Floor (w : World) : GF (Fl.kH w.params) (Str.ofString "Floor") 189 := ⟨by kernel_rfl, by kernel_rfl, by kernel_rfl⟩

theorem gf_whole (w : World) : GF (Fl.kH w.params) (Str.ofString "_law_whole") 309 := ⟨by kernel_rfl, by kernel_rfl, by kernel_rfl⟩
theorem gf_lmay (w : World) : GF (Fl.kH w.params) (Str.ofString "_law_may") 280 := ⟨by kernel_rfl, by kernel_rfl, by kernel_rfl⟩
theorem gf_lbeside (w : World) : GF (Fl.kH w.params) (Str.ofString "_law_beside") 290 := ⟨by kernel_rfl, by kernel_rfl, by kernel_rfl⟩
theorem gf_Laying (w : World) : GF (Fl.kH w.params) (Str.ofString "Laying") 250 := ⟨by kernel_rfl, by kernel_rfl, by kernel_rfl⟩
theorem gf_turned (w : World) : GF (Fl.kH w.params) (Str.ofString "turned") 28 := ⟨by kernel_rfl, by kernel_rfl, by kernel_rfl⟩
theorem fi_floor (w : World) : fieldIn (Fl.kH w.params) 250 (Str.ofString "floor") = true := by kernel_rfl
theorem fi_over (w : World) : fieldIn (Fl.kH w.params) 250 (Str.ofString "over") = true := by kernel_rfl
theorem me_need_cell (w : World) : methIn (Fl.kH w.params) 250 (Str.ofString "need_cell") 214 = true := by kernel_rfl
theorem mk_need_cell (w : World) : keepIn (Fl.kH w.params) (.ref 214) = true := methIn_keep (me_need_cell w)
theorem me_put (w : World) : methIn (Fl.kH w.params) 250 (Str.ofString "put") 221 = true := by kernel_rfl
theorem mk_put (w : World) : keepIn (Fl.kH w.params) (.ref 221) = true := methIn_keep (me_put w)
theorem me_lift (w : World) : methIn (Fl.kH w.params) 250 (Str.ofString "lift") 228 = true := by kernel_rfl
theorem mk_lift (w : World) : keepIn (Fl.kH w.params) (.ref 228) = true := methIn_keep (me_lift w)
theorem me_bare (w : World) : methIn (Fl.kH w.params) 250 (Str.ofString "bare") 233 = true := by kernel_rfl
theorem mk_bare (w : World) : keepIn (Fl.kH w.params) (.ref 233) = true := methIn_keep (me_bare w)
theorem me_slabs (w : World) : methIn (Fl.kH w.params) 250 (Str.ofString "slabs") 240 = true := by kernel_rfl
theorem mk_slabs (w : World) : keepIn (Fl.kH w.params) (.ref 240) = true := methIn_keep (me_slabs w)
theorem me_copied (w : World) : methIn (Fl.kH w.params) 250 (Str.ofString "copied") 247 = true := by kernel_rfl
theorem mk_copied (w : World) : keepIn (Fl.kH w.params) (.ref 247) = true := methIn_keep (me_copied w)
theorem gb_sorted (w : World) : GB (Fl.kH w.params) (Str.ofString "sorted") (.builtin "sorted") := ⟨by kernel_rfl, by kernel_rfl, by decide +kernel, by kernel_rfl⟩
set_option hygiene false in
local macro_rules | `(tactic| walk_at "lk") => `(tactic| with_reducible (repeat (first | exact Look.head | apply Look.tail)))
set_option hygiene false in
local macro_rules | `(tactic| walk_at "pt") => `(tactic| with_reducible (repeat (first | exact Put.head | apply Put.tail)))
set_option hygiene false in
local macro_rules | `(tactic| walk_at "mm") => `(tactic| with_reducible (repeat (first | exact List.mem_cons_self | apply List.mem_cons_of_mem)))
set_option hygiene false in
local macro_rules | `(tactic| walk_at "cf") => `(tactic| with_reducible (repeat (first | exact ChgF.head | apply ChgF.tail)))
set_option hygiene false in
local macro_rules | `(tactic| walk_at "enter") => `(tactic| (
  (case z_ho => k_is); (case z_hcd => k_is); (case z_hbind => rfl); (case z_hd => kernel_rfl); (case z_hb1 => kernel_rfl); (case z_hb2 => kernel_rfl); (case z_hρ => kernel_rfl)))
set_option hygiene false in
local macro_rules | `(tactic| walk_at "room") => `(tactic| (have rd := R.depth; have ru := R.units; (try simp only [depth_deeper, Around.deeper_units]); (first | lia | omega)))
set_option hygiene false in
local macro_rules | `(tactic| walk_at "fi") => `(tactic| with_reducible first | exact fi_rows _ | exact fi_high _ | exact fi_wide _ | exact fi_floor _ | exact fi_over _)
set_option hygiene false in
local macro_rules | `(tactic| walk_at "gb") => `(tactic| with_reducible first | exact gb_len _ | exact gb_range _ | exact gb_isi _ | exact gb_min _ | exact gb_max _ | exact gb_abs _ | exact gb_list _ | exact gb_int _ | exact gb_bool _ | exact gb_sorted _)
set_option hygiene false in
local macro_rules | `(tactic| walk_at "gs") => `(tactic| with_reducible first | exact gs_ALONG _ | exact gs_ACROSS _ | exact gs_SIGNS _)
set_option hygiene false in
local macro_rules | `(tactic| walk_at "gi") => `(tactic| with_reducible first | exact gi_MOST _)
set_option hygiene false in
local macro_rules | `(tactic| walk_at "gf") => `(tactic| with_reducible first | exact gf_sizes _ | exact gf_cell_at _ | exact gf_number _ | exact gf_rows _ | exact gf_cells _ | exact gf_Floor _ | exact gf_whole _ | exact gf_lmay _ | exact gf_listed _ | exact gf_truth _ | exact gf_two _ | exact gf_asked _ | exact gf_lbeside _ | exact gf_refused _ | exact gf_faulty _ | exact gf_due _ | exact gf_told _ | exact gf_Laying _ | exact gf_reached _ | exact gf_way_to _ | exact gf_turned _ | exact gf_better _ | exact gf_laid _ | exact gf_fewest _)
set_option hygiene false in
local macro_rules | `(tactic| walk_at "me") => `(tactic| with_reducible first | exact me_has _ | exact me_sign_of _ | exact me_may _ | exact me_cells _ | exact me_need_cell _ | exact me_put _ | exact me_lift _ | exact me_bare _ | exact me_slabs _ | exact me_copied _)
set_option hygiene false in
local macro_rules | `(tactic| walk_at "mk") => `(tactic| with_reducible first | exact mk_has _ | exact mk_sign_of _ | exact mk_may _ | exact mk_cells _ | exact mk_need_cell _ | exact mk_put _ | exact mk_lift _ | exact mk_bare _ | exact mk_slabs _ | exact mk_copied _)
set_option hygiene false in
local macro_rules | `(tactic| walk_at "kp") => `(tactic| (intro s' hk; replace S := CS.keeps S hk; clear hk))
set_option hygiene false in
local macro_rules | `(tactic| walk_at "kpt") => `(tactic| (intro t s' hk; replace S := CS.keeps S hk; clear hk))
set_option hygiene false in
local macro_rules | `(tactic| walk_at "turn") => `(tactic| (intro h₁ s k S Q' hNx hRet; replace G := Gr.mono G k))
set_option hygiene false in
local macro_rules | `(tactic| walk_at "gnew") => `(tactic| (refine jX3 (CS.gnew S hk) ?_; clear S; intro h₁ k S hN; replace G := Gr.mono G k))
set_option hygiene false in
local macro_rules | `(tactic| walk_at "store") => `(tactic| ((refine' a_store S (S.gr G).X ?z_hx ?z_hc ?z_U ?z_hn ?z_hk ?_); (case z_hx => exact S.atLed (by walk_at "mm")); (case z_hc => first | exact st_rows _ | exact st_high _ | exact st_wide _ | exact st_floor _ | exact st_over _); (case z_U => walk_at "cf"); (case z_hn => assumption); (case z_hk => decide); clear S; intro o' s hn' S))
-- a step: the statements and the expressions
set_option hygiene false in
local macro_rules | `(tactic| walk_at "st") => `(tactic| first
  | (with_reducible first | refine x_nil ?_ | refine x_ret ?_)
  | ((with_reducible first | refine' x_assign ?_ ?z_hs | refine' x_attr ?_ ?z_hs | refine' x_setitem ?_ ?z_hs); (case z_hs => rfl))
  | ((with_reducible refine' x_e ?_ ?z_hi ?z_hs); (case z_hi | z_hs => rfl))
  | ((with_reducible refine' x_for ?z_hs ?_); (case z_hs => intro _; rfl))
  | (with_reducible first | refine seq_next ?_ | refine i_tt ?_ | refine i_ff ?_ | refine i_not ?_ | refine seq_ret ?_ | refine ret_ret ?_ | refine ret_next ?_ | refine hRet _ _ ?_ | refine hRet0 _ _ ?_)
  | ((with_reducible refine' n_var S ?z_hx ?z_hd ?_); (case z_hx => walk_at "lk"); (case z_hd => kernel_rfl))
  | ((with_reducible first | refine c_int S ?_ | refine c_str S ?_ | refine b_abs S ?_ | refine o_add S ?_ | refine o_sub S ?_ | refine o_neg S ?_); clear S; intro t s S)
  | (with_reducible first | refine wpAny_Constant_bool ?_ | refine wpAny_Constant_none ?_)
  | ((with_reducible refine' wpAny_isTrue_Compare1 ?_ ?z_hm); (case z_hm => with_unfolding_all rfl))
  | ((with_reducible refine' wpAny_Compare1 ?_ ?z_hm); (case z_hm => with_unfolding_all rfl))
  | (with_reducible first | refine wpAny_BinOp ?_ | refine wpAny_UnaryOp ?_ | refine PyProof.Rows.not_of ?_ | refine isTrue_not ?_ | refine isTrue_or_nil ?_ | refine isTrue_and_nil ?_ | refine isTrue_or ?_ | refine isTrue_and ?_ | refine wpAny_IfExp ?_)
  | ((with_reducible refine' isTrue_chain ?_ ?z_hm); (case z_hm => with_unfolding_all rfl))
  | (with_reducible first | refine test_link ?_ | refine test_lastE ?_ | refine BoolOp_one ?_ | refine BoolOp_and ?_ | refine BoolOp_or ?_)
  | ((with_reducible refine' wpAny_isTrue_value ?_ ?z_he); (case z_he => rfl))
  | (with_reducible refine wpAny_truthy_bool ?_)
  | ((with_reducible refine' sl_ ?_ ?z_ht); (case z_ht => intro _ _; rfl))
  | (with_reducible first | refine part_none ?_ | refine part_some ?_)
  | ((with_reducible refine' Subscript_ ?_))
  | ((with_reducible refine' Attribute_Name_ ?_ ?z_he); (case z_he => rfl))
  | ((with_reducible refine' Attribute_any_ ?_ ?z_he); (case z_he => rfl))
  | (with_reducible first | refine List_ ?_ | refine Tuple_ ?_)
  | ((with_reducible first | refine' args_cons ?_ ?z_he | refine' MethodCall_ ?_ ?z_he); (case z_he => rfl))
  | (with_reducible refine args_nil ?_)
  | ((with_reducible refine' callB S G ?z_g ?z_hx ?z_hg ?z_hb ?_ ?z_he ?z_hp); (case z_g => walk_at "gb"); (case z_hx => kernel_rfl); (case z_hg | z_hb | z_he | z_hp => rfl))
  | ((with_reducible refine' callT S G ?z_g ?z_hx ?z_hg ?z_hb ?_ ?z_he ?z_hp); (case z_g => walk_at "gb"); (case z_hx => kernel_rfl); (case z_hg | z_hb | z_he | z_hp => rfl))
  | ((with_reducible refine' callN S G ?z_g ?z_hx ?z_hg ?_ ?z_he ?z_hp); (case z_g => walk_at "gf"); (case z_hx => kernel_rfl); (case z_hg | z_he | z_hp => rfl))
  | ((with_reducible refine' n_gs S G ?z_g ?z_hx ?z_hg ?_); (case z_g => walk_at "gs"); (case z_hx => kernel_rfl); (case z_hg => rfl); intro t)
  | ((with_reducible refine' n_gi S G ?z_g ?z_hx ?z_hg ?_); (case z_g => walk_at "gi"); (case z_hx => kernel_rfl); (case z_hg => rfl); intro t)
  | ((with_reducible refine' n_gb S G ?z_g ?z_hx ?z_hg ?z_hb ?_); (case z_g => walk_at "gb"); (case z_hx => kernel_rfl); (case z_hg | z_hb => rfl))
  | ((with_reducible refine' n_gf S G ?z_g ?z_hx ?z_hg ?_); (case z_g => walk_at "gf"); (case z_hx => kernel_rfl); (case z_hg => rfl))
  | ((with_reducible refine' cw_own G ?z_k ?_ ?z_he ?z_hp); (case z_k => walk_at "mk"); (case z_he => rfl); (case z_hp => rfl))
  | ((with_reducible refine' cw_own0 (S.gr G).X ?z_k ?_); (case z_k => walk_at "mk"))
  | ((with_reducible refine' cw_meth ?_ ?z_he ?z_hp); (case z_he | z_hp => rfl))
  | (with_reducible refine And.intro (CS.gr S G).X ?_)
  | ((with_reducible refine' S.put ?z_p ?_); (case z_p => walk_at "pt"); clear S; intro s S)
  | (with_reducible first | refine PySem.P.lt_int ?_ | refine PySem.P.le_int ?_ | refine PySem.P.gt_int ?_ | refine PySem.P.ge_int ?_ | refine PySem.P.eq_int ?_ | refine PySem.P.ne_int ?_ | refine t_ne ?_ | refine t_in ?_ | refine t_notin ?_ | refine y_int_int ?_)
  | ((with_reducible refine y_int_bool S ?_); clear S; intro s S)
  | ((with_reducible first | refine' b_min S ?z_hh ?_ | refine' b_max S ?z_hh ?_); (case z_hh => exact R.handled); clear S; intro t s S)
  | (with_reducible refine PySem.GM.join ?_)
  | ((with_reducible refine' m_list (S.atLed ?z_m) ?z_sl ?z_ty ?_); (case z_m => walk_at "mm"); (case z_sl => first | exact PySem.F.slot_list_append| exact PySem.F.slot_list_clear | exact PySem.F.slot_list_count); (case z_ty => first | exact PySem.F.type_list_append| exact type_list_clear | exact type_list_count))
  | ((with_reducible refine' o_mul S ?z_m ?_); (case z_m => walk_at "mulok"); clear S; intro t s S)
  | ((with_reducible refine' o_div S ?z_p ?z_q ?_); (case z_p | z_q => walk_at "pos"); clear S; intro t s S)
  | ((with_reducible refine' o_mod S ?z_p ?_); (case z_p => walk_at "pos"); clear S; intro t s S))
set_option hygiene false in
local macro_rules | `(tactic| walk_at "mulok") => `(tactic| first
  | exact IntMulOk.of_left (by decide)
  | exact IntMulOk.of_left (intBits_le_64 (by (first | lia | omega)) (by (first | lia | omega)))
  | exact IntMulOk.of_right (by decide)
  | assumption)
set_option hygiene false in
local macro_rules | `(tactic| walk_at "pos") => `(tactic| first
  | decide
  | (first | lia | omega))
-- a field of a floor, a method of a floor
set_option hygiene false in
local macro_rules | `(tactic| walk_at "fl") => `(tactic| first
  | ((with_reducible refine' a_fld S G (F.mono S.base).obj ?z_hc ?z_hl ?z_hh ?_); (case z_hc => walk_at "fi"); (case z_hl => walk_at "mm"); (case z_hh => rfl); clear S; intro s S)
  | ((with_reducible refine' m_get (S.gr G).X (F.mono S.base).obj ?z_hc ?z_hl ?_); (case z_hc => walk_at "me"); (case z_hl => kernel_rfl))
  | ((with_reducible refine' a_fld S G (ObjAt.mono Y S.base) ?z_hc ?z_hl ?z_hh ?_); (case z_hc => walk_at "fi"); (case z_hl => walk_at "mm"); (case z_hh => rfl); clear S; intro s S)
  | ((with_reducible refine' m_get (S.gr G).X (ObjAt.mono Y S.base) ?z_hc ?z_hl ?_); (case z_hc => walk_at "me"); (case z_hl => kernel_rfl)))
set_option hygiene false in
local macro_rules | `(tactic| walk_at "go") => `(tactic| try repeat' (first | walk_at "st" | (with_reducible refine x_if ?_) | walk_at "fl"))
set_option hygiene false in
local macro_rules | `(tactic| walk_at "gu") => `(tactic| try repeat' (first | walk_at "st" | walk_at "fl"))

def cellAt (ns : List Int) (k : Int) : Int := if k < ns.length then ns.getD k.toNat 0 else 0

theorem cell_at_spec {w : World} {A : Around} {s : Shared} {Q E : Value → Shared → Prop} {l : Addr} {ns : List Int} {k : Int} {t : Tok} (G : Gr (Fl.kH w.params) s.heap) (R : Room A 1) (hl : IntL s.heap l ns)
    (hn : ns.length ≤ 63) (hk : 0 ≤ k) (h : ∀ t s', Keeps s s' → Q (.int (cellAt ns k) t) s') : wpAny (model PP w) A (call (.ref 261) [.ref l, .int k t]) Q E s := by
  refine' callP [(Str.ofString "_law_script", some (.ref l)), (Str.ofString "_law_k", some (.int k t))] G (by walk_at "room") ?z_ho ?z_hcd ?z_hbind ?z_hd ?z_hb1 ?z_hb2 ?z_hρ ?_
  walk_at "enter"
  intro L s S
  walk_at "go"
  refine l_len S (hl.mono S.base) (by (first | lia | omega)) ?_; clear S; intro t s S
  walk_at "go"
  refine i_dec (fun hc => ?_) (fun hc => ?_)
  · walk_at "go"
    refine l_at (hl.mono S.base) hk hc (by (first | lia | omega)) rfl ?_
    intro t
    walk_at "go"
    have := h t s S.out
    rw [cellAt, if_pos hc] at this
    exact this
  · walk_at "go"
    have := h t s S.out
    rw [cellAt, if_neg hc] at this
    exact this

theorem number_spec {w : World} {A : Around} {s : Shared} {Q E : Value → Shared → Prop} {l : Addr} {ns : List Int} {k : Int} {t : Tok} (G : Gr (Fl.kH w.params) s.heap) (R : Room A 1) (hl : IntL s.heap l ns)
    (hn : ns.length ≤ 63) (hk : 0 ≤ k) (h : ∀ n t s', 0 ≤ n → Keeps s s' → Q (.int n t) s') : wpAny (model PP w) A (call (.ref 268) [.ref l, .int k t]) Q E s := by
  refine' callP [(Str.ofString "_law_script", some (.ref l)), (Str.ofString "_law_k", some (.int k t)), (Str.ofString "_law_base", none)] G (by walk_at "room") ?z_ho ?z_hcd ?z_hbind ?z_hd ?z_hb1 ?z_hb2 ?z_hρ ?_
  walk_at "enter"
  intro L s S
  walk_at "go"
  refine l_len S (hl.mono S.base) (by (first | lia | omega)) ?_; clear S; intro t s S
  walk_at "go"
  refine i_eq (fun hc => ?_) (fun hc => ?_)
  · walk_at "go"
    exact h _ _ s hk S.out
  · walk_at "go"
    refine l_len S (hl.mono S.base) (by (first | lia | omega)) ?_; clear S; intro t s S
    have hpos : 0 < (ns.length : Int) := by (first | lia | omega)
    walk_at "go"
    refine l_at (hl.mono S.base) (Int.emod_nonneg _ hc) (Int.emod_lt_of_pos _ hpos) (by (first | lia | omega)) (by rfl) ?_
    intro t
    walk_at "go"
    refine l_len S (hl.mono S.base) (by (first | lia | omega)) ?_; clear S; intro t s S
    walk_at "go"
    exact h _ _ s (Int.emod_nonneg _ (by decide)) S.out

theorem sign_of_spec {w : World} {A : Around} {s : Shared} {Q E : Value → Shared → Prop} {fl l : Addr} {rows : List Str} {wd : Nat} {t1 t2 t : Tok} {p : Int} (G : Gr (Fl.kH w.params) s.heap) (R : Room A 1) (F : FloorAt 189 s.heap fl l rows wd t1 t2)
    (h0 : 0 ≤ p) (h1 : p < rows.length * wd) (h : ∀ t s', Keeps s s' → Q (.str ⟨#[sg rows wd p]⟩ t) s') : wpAny (model PP w) A (call (.ref 153) [.ref fl, .int p t]) Q E s := by
  refine' callP [(Str.ofString "self", some (.ref fl)), (Str.ofString "place", some (.int p t))] G (by walk_at "room") ?z_ho ?z_hcd ?z_hbind ?z_hd ?z_hb1 ?z_hb2 ?z_hρ ?_
  walk_at "enter"
  intro L s S
  obtain ⟨hw, e1, e2, e3, e4⟩ := F.grid.at_ h0 h1
  have hw' : (wd : Int) < 1073741824 := by have := F.grid.wide; (first | lia | omega)
  have hh := F.grid.high
  have hww := F.grid.wide
  walk_at "go"
  refine l_atS (F.mono S.base).texts e1 e2 (by (first | lia | omega)) (by rfl) ?_
  intro t
  walk_at "go"
  have hlen : (rows.getD (p / wd).toNat Str.empty).length = wd := row_len F.grid (by (first | lia | omega))
  refine t_at S e3 (by rw [hlen]; exact e4) (by (first | lia | omega)) (by rfl) ?_; clear S; intro t s S
  walk_at "go"
  exact h t s S.out

theorem has_spec {w : World} {A : Around} {s : Shared} {Q E : Value → Shared → Prop} {fl l : Addr} {rows : List Str} {wd : Nat} {t1 t2 t : Tok} {p : Int} (G : Gr (Fl.kH w.params) s.heap) (R : Room A 2) (F : FloorAt 189 s.heap fl l rows wd t1 t2)
    (h : ∀ s', Keeps s s' → Q (.bool (hasB rows wd p)) s') : wpAny (model PP w) A (call (.ref 160) [.ref fl, .int p t]) Q E s := by
  refine' callP [(Str.ofString "self", some (.ref fl)), (Str.ofString "place", some (.int p t))] G (by walk_at "room") ?z_ho ?z_hcd ?z_hbind ?z_hd ?z_hb1 ?z_hb2 ?z_hρ ?_
  walk_at "enter"
  intro L s S
  have hh := F.grid.high
  have hww := F.grid.wide
  walk_at "go"
  refine i_dec (fun hc => ?_) (fun hc => ?_)
  · walk_at "go"
    have := h s S.out
    rw [show hasB rows wd p = false by simp [hasB, inB]; (first | lia | omega)] at this
    exact this
  · walk_at "go"
    refine i_dec (fun hc2 => ?_) (fun hc2 => ?_)
    · walk_at "go"
      have := h s S.out
      rw [show hasB rows wd p = false by simp [hasB, inB]; (first | lia | omega)] at this
      exact this
    · walk_at "go"
      refine sign_of_spec (S.gr G) (R.in_ (by decide)) (F.mono S.base) (by (first | lia | omega)) (by (first | lia | omega)) ?_
      walk_at "kpt"
      walk_at "go"
      have := h _ S.out
      rw [show hasB rows wd p = ((⟨#[sg rows wd p]⟩ : Str) != Str.ofString "#") from ?_] at this
      · exact this
      · rw [show Str.ofString "#" = ⟨#[35]⟩ by decide +kernel]
        have e : inB rows wd p = true := by simp [inB]; (first | lia | omega)
        rw [hasB, e, Bool.true_and, one_ne]

theorem along_in (c : Nat) : decide (c ∈ (⟨#[46, 45]⟩ : Str).cps.toList) = alongB c := by rw [Bool.eq_iff_iff]; simp [alongB]
theorem across_in (c : Nat) : decide (c ∈ (⟨#[46, 124]⟩ : Str).cps.toList) = acrossB c := by rw [Bool.eq_iff_iff]; simp [acrossB]

theorem may_spec {w : World} {A : Around} {s : Shared} {Q E : Value → Shared → Prop} {fl l : Addr} {rows : List Str} {wd : Nat} {t1 t2 t u : Tok} {a c : Int} (G : Gr (Fl.kH w.params) s.heap) (R : Room A 3) (F : FloorAt 189 s.heap fl l rows wd t1 t2)
    (h : ∀ s', Keeps s s' → Q (.bool (mayB rows wd a c)) s') : wpAny (model PP w) A (call (.ref 179) [.ref fl, .int a t, .int c u]) Q E s := by
  refine' callP [(Str.ofString "self", some (.ref fl)), (Str.ofString "one", some (.int a t)), (Str.ofString "other", some (.int c u)), (Str.ofString "low", none), (Str.ofString "high", none), (Str.ofString "first", none), (Str.ofString "second", none)] G (by walk_at "room") ?z_ho ?z_hcd ?z_hbind ?z_hd ?z_hb1 ?z_hb2 ?z_hρ ?_
  walk_at "enter"
  intro L s S
  have hh := F.grid.high
  have hww := F.grid.wide
  walk_at "go"
  refine has_spec (S.gr G) (R.in_ (by decide)) (F.mono S.base) ?_
  walk_at "kp"
  walk_at "go"
  refine i_bool (fun ha => ?_) (fun ha => ?_)
  · walk_at "go"
    refine has_spec (S.gr G) (R.in_ (by decide)) (F.mono S.base) ?_
    walk_at "kp"
    walk_at "go"
    refine i_bool (fun hc => ?_) (fun hc => ?_)
    · walk_at "go"
      obtain ⟨ha0, ha1⟩ := hasB_in ha
      obtain ⟨hc0, hc1⟩ := hasB_in hc
      refine sign_of_spec (S.gr G) (R.in_ (by decide)) (F.mono S.base) (by (first | lia | omega)) (by (first | lia | omega)) ?_
      walk_at "kpt"
      walk_at "go"
      refine sign_of_spec (S.gr G) (R.in_ (by decide)) (F.mono S.base) (by (first | lia | omega)) (by (first | lia | omega)) ?_
      walk_at "kpt"
      have hw' : 0 < (wd : Int) := by have := F.grid.at_ ha0 ha1; (first | lia | omega)
      walk_at "go"
      have hm : mayB rows wd a c = (if max a c - min a c = 1 ∧ min a c / wd = max a c / wd then alongB (sg rows wd (min a c)) && alongB (sg rows wd (max a c))
     else if max a c - min a c = wd then acrossB (sg rows wd (min a c)) && acrossB (sg rows wd (max a c)) else false) := by rw [mayB, ha, hc, Bool.and_true, Bool.true_and]
      rw [hm] at h
      refine i_eq (fun hd => ?_) (fun hd => ?_)
      · walk_at "go"
        refine i_eq (fun he => ?_) (fun he => ?_)
        · walk_at "go"
          rw [if_pos ⟨hd, he⟩] at h
          rw [along_in]
          refine i_bool (fun hf => ?_) (fun hf => ?_)
          · walk_at "go"
            rw [along_in]
            have := h _ S.out
            rw [hf, Bool.true_and] at this
            exact this
          · rw [hf]
            walk_at "go"
            have := h _ S.out
            rw [hf, Bool.false_and] at this
            exact this
        · walk_at "go"
          rw [if_neg (fun q => he q.2)] at h
          refine i_eq (fun hd2 => ?_) (fun hd2 => ?_)
          · walk_at "go"
            rw [if_pos hd2] at h
            rw [across_in]
            refine i_bool (fun hf => ?_) (fun hf => ?_)
            · walk_at "go"
              rw [across_in]
              have := h _ S.out
              rw [hf, Bool.true_and] at this
              exact this
            · rw [hf]
              walk_at "go"
              have := h _ S.out
              rw [hf, Bool.false_and] at this
              exact this
          · walk_at "go"
            rw [if_neg hd2] at h
            exact h _ S.out
      · walk_at "go"
        rw [if_neg (fun q => hd q.1)] at h
        refine i_eq (fun hd2 => ?_) (fun hd2 => ?_)
        · walk_at "go"
          rw [if_pos hd2] at h
          rw [across_in]
          refine i_bool (fun hf => ?_) (fun hf => ?_)
          · walk_at "go"
            rw [across_in]
            have := h _ S.out
            rw [hf, Bool.true_and] at this
            exact this
          · rw [hf]
            walk_at "go"
            have := h _ S.out
            rw [hf, Bool.false_and] at this
            exact this
        · walk_at "go"
          rw [if_neg hd2] at h
          exact h _ S.out
    · walk_at "go"
      have := h _ S.out
      rw [show mayB rows wd a c = false by rw [mayB, hc]; simp] at this
      exact this
  · walk_at "go"
    have := h _ S.out
    rw [show mayB rows wd a c = false by rw [mayB, ha]; rfl] at this
    exact this


theorem len_wd {rows : List Str} {wd : Nat} (g : Grid rows wd) : rows.length * wd ≤ 144 ∧ ((rows.length : Int) * wd) = ((rows.length * wd : Nat) : Int) := ⟨Nat.mul_le_mul g.high g.wide, by rw [Int.natCast_mul]⟩
theorem cells_spec {w : World} {A : Around} {s : Shared} {Q E : Value → Shared → Prop} {fl l : Addr} {rows : List Str} {wd : Nat} {t1 t2 : Tok} (G : Gr (Fl.kH w.params) s.heap) (R : Room A 3) (F : FloorAt 189 s.heap fl l rows wd t1 t2)
    (h : ∀ D ys k s', s.heap.get? D = none → s'.heap.get? D = some (lst ys k) → IntsAre ys.toList (cellsL rows wd) → Keeps s s' → Q (.ref D) s') : wpAny (model PP w) A (call (.ref 165) [.ref fl]) Q E s := by
  refine' callP [(Str.ofString "self", some (.ref fl))] G (by walk_at "room") ?z_ho ?z_hcd ?z_hbind ?z_hd ?z_hb1 ?z_hb2 ?z_hρ ?_
  walk_at "enter"
  intro L s S
  have hh := F.grid.high
  have hww := F.grid.wide
  obtain ⟨hl1, hl2⟩ := len_wd F.grid
  walk_at "go"
  refine' lc [(Str.ofString "self", some (.ref fl))] (onI (hasB rows wd)) (FII id) S ?z_ok ?z_sel ?_ ?z_hs
  case z_ok => kernel_rfl
  case z_sel => exact Sel.cons (by walk_at "lk") Sel.nil
  case z_hs => intro _; rfl
  walk_at "go"
  refine r_range S ?_; clear S; intro r t1 t2 t3 s hr S
  refine it_range S R.handled hr (by (first | lia | omega)) (by (first | lia | omega)) ?_
  intro it s I
  refine comp_it I (by (first | lia | omega)) ?_ ?_ ?_
  · intro C i v s E' hlt hv S
    obtain ⟨t, rfl⟩ := hv
    refine tests1 ?_
    walk_at "go"
    refine has_spec (S.gr G) (R.in_ (by decide)) (F.mono S.base) ?_
    walk_at "kp"
    walk_at "go"
    exact ⟨rfl, S.quiet⟩
  · intro C i v s E' hlt hv hp S
    obtain ⟨t, rfl⟩ := hv
    walk_at "go"
    exact ⟨⟨_, _, _, rfl, rfl⟩, S.quiet⟩
  · intro D k ys vs h1 h2 h3 hD s' S
    walk_at "go"
    refine h D ys k s' (I.cs.base.none hD) (S.atLed (List.mem_cons_self ..)) ?_ S.out
    have := pairII (filtI (vs_range h1 h2)) h3
    rw [hl2, Int.toNat_natCast, List.map_id] at this
    exact this


theorem sizes_spec {w : World} {A : Around} {s : Shared} {Q E : Value → Shared → Prop} {l : Addr} {rows : List Str} {wd : Nat} (G : Gr (Fl.kH w.params) s.heap) (R : Room A 1) (hl : StrL s.heap l rows) (g : Grid rows wd)
    (h : ∀ s', Keeps s s' → Q .none s') : wpAny (model PP w) A (call (.ref 132) [.ref l]) Q E s := by
  refine' callP [(Str.ofString "rows", some (.ref l)), (Str.ofString "row", none)] G (by walk_at "room") ?z_ho ?z_hcd ?z_hbind ?z_hd ?z_hb1 ?z_hb2 ?z_hρ ?_
  walk_at "enter"
  intro L s S
  have hh := g.high
  have hww := g.wide
  have hlen := g.len
  have hl' := hl
  obtain ⟨vs, ⟨o, ho, hc, n, hd⟩, hi⟩ := hl'
  have hsz : vs.toArray.size = rows.length := by rw [List.size_toArray]; exact hi.length
  walk_at "go"
  refine l_lenS S (hl.mono S.base) (by (first | lia | omega)) ?_; clear S; intro t s S
  walk_at "go"
  refine i_dec (fun hc1 => by (first | lia | omega)) (fun hc1 => ?_)
  walk_at "go"
  refine it_list S R.handled ho hc ⟨n, hd⟩ ?_
  intro it s I
  refine loop_it (fun i ρ Λ => (∃ a, ρ = [(Str.ofString "rows", some (.ref l)), (Str.ofString "row", a)]) ∧ Λ = []) I (jH1 _ rfl rfl) ?_ ?_ ?_
  · rintro i ρ' Λ' ⟨_, rfl⟩; rfl
  · rintro i v ρ₁ Λ₁ hi1 hv hJx
    refine jF1 hJx ?_
    clear hJx
    rintro a rfl rfl
    obtain ⟨y, t, rfl, hy⟩ := hi.item i v (by simpa using hv)
    have hyl := hlen y (List.mem_of_getElem? hy)
    refine ⟨_, .tail .head, ?_⟩
    walk_at "turn"
    walk_at "go"
    refine t_len S (by (first | lia | omega)) ?_; clear S; intro t s S
    walk_at "go"
    refine i_dec (fun hc1 => by (first | lia | omega)) (fun hc1 => ?_)
    walk_at "go"
    exact hNx _ _ _ _ (Sub.refl _) S (jH1 _ rfl rfl)
  rintro ρ' Λ' s hJx
  refine jF1 hJx ?_
  clear hJx
  rintro a rfl rfl S
  walk_at "go"
  refine it_list S R.handled ho hc ⟨n, hd⟩ ?_
  intro it s I
  refine loop_it (fun i ρ Λ => (∃ a, ρ = [(Str.ofString "rows", some (.ref l)), (Str.ofString "row", a)]) ∧ Λ = []) I (jH1 _ rfl rfl) ?_ ?_ ?_
  · rintro i ρ' Λ' ⟨_, rfl⟩; rfl
  · rintro i v ρ₁ Λ₁ hi1 hv hJx
    refine jF1 hJx ?_
    clear hJx
    rintro a rfl rfl
    obtain ⟨y, t, rfl, hy⟩ := hi.item i v (by simpa using hv)
    have hyl := hlen y (List.mem_of_getElem? hy)
    have h0 : 0 < rows.length := by (first | lia | omega)
    have hr0 := row_len g h0
    refine ⟨_, .tail .head, ?_⟩
    walk_at "turn"
    walk_at "go"
    refine t_len S (by (first | lia | omega)) ?_; clear S; intro t s S
    walk_at "go"
    refine l_atS (hl.mono (k.trans S.base)) (by (first | lia | omega)) (by (first | lia | omega)) (by (first | lia | omega)) (by rfl) ?_
    intro t
    walk_at "go"
    refine t_len S (by rw [Int.toNat_zero]; (first | lia | omega)) ?_; clear S; intro t s S
    walk_at "go"
    refine i_ne (fun hc1 => absurd (by rw [Int.toNat_zero, hr0, hyl]) hc1) (fun hc1 => ?_)
    walk_at "go"
    exact hNx _ _ _ _ (Sub.refl _) S (jH1 _ rfl rfl)
  rintro ρ' Λ' s hJx
  refine jF1 hJx ?_
  clear hJx
  rintro a rfl rfl S
  walk_at "go"
  exact h _ S.out


theorem fieldsF {r hi wi : Value} {n : Str} : (if n = Str.ofString "wide" then some wi else if n = Str.ofString "high" then some hi else if n = Str.ofString "rows" then some r else none) =
    List.lookup n [(Str.ofString "rows", r), (Str.ofString "high", hi), (Str.ofString "wide", wi)] := by
  have d1 : Str.ofString "rows" ≠ Str.ofString "high" := by decide +kernel
  have d2 : Str.ofString "rows" ≠ Str.ofString "wide" := by decide +kernel
  have d3 : Str.ofString "high" ≠ Str.ofString "wide" := by decide +kernel
  simp only [List.lookup_cons, List.lookup_nil]
  have e1 := beq_eq_false_iff_ne.mpr d1.symm
  have e2 := beq_eq_false_iff_ne.mpr d2.symm
  have e3 := beq_eq_false_iff_ne.mpr d3.symm
  by_cases h1 : n = Str.ofString "rows"
  · subst h1; simp [d1, d2]
  · by_cases h2 : n = Str.ofString "high"
    · subst h2; simp [d3, e1]
    · by_cases h3 : n = Str.ofString "wide"
      · subst h3; simp [e2, e3]
      · have b1 : (n == Str.ofString "rows") = false := beq_eq_false_iff_ne.mpr h1
        have b2 : (n == Str.ofString "high") = false := beq_eq_false_iff_ne.mpr h2
        have b3 : (n == Str.ofString "wide") = false := beq_eq_false_iff_ne.mpr h3
        simp [h1, h2, h3, b1, b2, b3]

theorem floor_end {C x dx l' : Addr} {od : Obj} {ys : Array Value} {c k : Nat} {rows : List Str} {wd : Nat} {t1 t2 : Tok} {s₀ s : Shared} {env : Env} {ρ : Rho} {Λ : List (Addr × Obj)} {h₁ : Heap} {m : Str → Option Value} (S : CS true s₀ s₀.heap env ρ Λ s) (m1 : (x, instObj C dx) ∈ Λ) (m2 : (dx, od) ∈ Λ) (m3 : (l', lst ys c) ∈ Λ)
    (hn : NsO od m k) (hm : ∀ n, m n = List.lookup n [(Str.ofString "rows", .ref l'), (Str.ofString "high", .int rows.length t1), (Str.ofString "wide", .int wd t2)]) (hi : StrsAre ys.toList rows) (g : Grid rows wd) (hN : Newer s₀ s h₁) : FloorAt C h₁ x l' rows wd t1 t2 := by
  refine ⟨⟨(show [Str.ofString "rows", Str.ofString "high", Str.ofString "wide"].Nodup by decide +kernel), instObj C dx, od, ⟨S.newAt (Sub.refl _) m1 hN, rfl, rfl, S.newAt (Sub.refl _) m2 hN⟩, fun n => ?_⟩, StrL.of (S.newAt (Sub.refl _) m3 hN) hi, g⟩
  rw [hn.look, hm]

theorem floor_spec {w : World} {A : Around} {s : Shared} {Q E : Value → Shared → Prop} {l : Addr} {rows : List Str} {wd : Nat} (G : Gr (Fl.kH w.params) s.heap) (R : Room A 4) (hl : StrL s.heap l rows) (g : Grid rows wd)
    (h : ∀ fl l' t1 t2 s', (∀ h₁, Newer s s' h₁ → FloorAt 189 h₁ fl l' rows wd t1 t2) → s.heap.get? l' = none → Keeps s s' → Q (.ref fl) s') : wpAny (model PP w) A (call (.ref 189) [.ref l]) Q E s := by
  refine' makeK (f := 146) (fun v => [(Str.ofString "self", v), (Str.ofString "rows", .ref l)]) (fun v => [(Str.ofString "self", some v), (Str.ofString "rows", some (.ref l)), (Str.ofString "row", none), (Str.ofString "sign", none)]) G (by walk_at "room") ?z_m ?z_i ?z_f ?z_ho ?z_hcd ?z_hbind ?z_hd ?z_hb1 ?z_hb2 ?z_hρ ?_
  case z_m => kernel_rfl
  case z_i => kernel_rfl
  case z_f => kernel_rfl
  case z_ho => k_is
  case z_hcd => k_is
  case z_hbind => intro _; rfl
  case z_hd => kernel_rfl
  case z_hb1 => intro _; kernel_rfl
  case z_hb2 => intro _; kernel_rfl
  case z_hρ => intro _; kernel_rfl
  intro x dx L s hx hdx S
  have R' : Room (A.under (.builtin "type.__call__" ⟨[.ref 189, .ref l], []⟩)) 2 := R.under (by (first | lia | omega))
  generalize A.under (.builtin "type.__call__" ⟨[.ref 189, .ref l], []⟩) = A' at R' ⊢
  replace R := R'
  have hh := g.high
  have hww := g.wide
  have hlen := g.len
  have hsg := g.sign
  have hl' := hl
  obtain ⟨vs, ⟨o, ho, hc, n, hd⟩, hi⟩ := hl'
  have hsz : vs.toArray.size = rows.length := by rw [List.size_toArray]; exact hi.length
  walk_at "go"
  refine sizes_spec (S.gr G) (R.in_ (by decide)) (hl.mono S.base) g ?_
  walk_at "kp"
  walk_at "go"
  refine it_list S R.handled ho hc ⟨n, hd⟩ ?_
  intro it s I
  refine loop_it (fun i ρ Λ => (∃ a b, ρ = [(Str.ofString "self", some (.ref x)), (Str.ofString "rows", some (.ref l)), (Str.ofString "row", a), (Str.ofString "sign", b)]) ∧ Λ = [(x, instObj 189 dx), (dx, dictOf [] 0)]) I (jH2 _ _ rfl rfl) ?_ ?_ ?_
  · rintro i ρ' Λ' ⟨_, rfl⟩; rfl
  · rintro i v ρ₁ Λ₁ hi1 hv hJx
    refine jF2 hJx ?_
    clear hJx
    rintro a b rfl rfl
    obtain ⟨y, t, rfl, hy⟩ := hi.item i v (by simpa using hv)
    have hys := hsg y (List.mem_of_getElem? hy)
    refine ⟨_, .tail (.tail .head), ?_⟩
    walk_at "turn"
    walk_at "go"
    refine it_str S R.handled ?_
    intro it s I
    refine loop_it (fun i ρ Λ => (∃ b, ρ = [(Str.ofString "self", some (.ref x)), (Str.ofString "rows", some (.ref l)), (Str.ofString "row", some (.str y t)), (Str.ofString "sign", b)]) ∧ Λ = [(x, instObj 189 dx), (dx, dictOf [] 0)]) I (jH1 _ rfl rfl) ?_ ?_ ?_
    · rintro i ρ' Λ' ⟨_, rfl⟩; rfl
    · rintro j v ρ₁ Λ₁ hj1 ⟨c, u, hcu, rfl⟩ hJx
      refine jF1 hJx ?_
      clear hJx
      rintro b rfl rfl
      have hcs := hys c (by have := Array.mem_of_getElem? hcu; simpa using this)
      refine ⟨_, .tail (.tail (.tail .head)), ?_⟩
      walk_at "turn"
      walk_at "go"
      refine i_dec (fun hc1 => ?_) (fun hc1 => absurd ?_ hc1)
      · walk_at "go"
        exact hNx _ _ _ _ (Sub.refl _) S (jH1 _ rfl rfl)
      · rcases hcs with rfl | rfl | rfl | rfl <;> simp
    · rintro ρ' Λ' s hJx
      refine jF1 hJx ?_
      clear hJx
      rintro b rfl rfl S
      walk_at "go"
      exact hNx _ _ _ _ (Sub.refl _) S (jH2 _ _ rfl rfl)
  rintro ρ' Λ' s hJx
  refine jF2 hJx ?_
  clear hJx
  rintro a b rfl rfl S
  walk_at "go"
  refine l_copy S (S.atBase ho) hc hd (by (first | lia | omega)) ?_; clear S; intro l' c s S hl'
  have hn0 := NsO.nil
  walk_at "go"
  walk_at "store"
  walk_at "go"
  refine l_lenS S (hl.mono S.base) (by (first | lia | omega)) ?_; clear S; intro t1 s S
  walk_at "go"
  walk_at "store"
  walk_at "go"
  walk_at "store"
  walk_at "go"
  refine l_lenS S (hl.mono S.base) (by (first | lia | omega)) ?_; clear S; intro t3 s S
  walk_at "go"
  refine i_dec (fun hp => ?_) (fun hp => ?_)
  · walk_at "go"
    refine l_atS (hl.mono S.base) (by (first | lia | omega)) (by (first | lia | omega)) (by (first | lia | omega)) (by rfl) ?_
    intro t
    have hr0 := row_len g (show (0 : Int).toNat < rows.length by rw [Int.toNat_zero]; (first | lia | omega))
    walk_at "go"
    refine t_len S (by (first | lia | omega)) ?_; clear S; intro t s S
    walk_at "go"
    walk_at "store"
    walk_at "go"
    refine ⟨rfl, h _ l' t1 t _ (fun h₁ hN => floor_end S (by walk_at "mm") (by walk_at "mm") (by walk_at "mm") (by assumption) (fun n => ?_) (by simpa using hi) g hN) ?_ S.out⟩
    · rw [← fieldsF, hr0]
      split <;> simp_all
    · exact (S.led (l', _) (by walk_at "mm")).2.2.2 rfl
  · walk_at "go"
    have hwd : wd = 0 := g.none (List.length_eq_zero_iff.mp (by (first | lia | omega)))
    subst hwd
    refine ⟨rfl, h _ l' _ _ _ (fun h₁ hN => floor_end S (by walk_at "mm") (by walk_at "mm") (by walk_at "mm") (by assumption) (fun n => fieldsF) (by simpa using hi) g hN) ?_ S.out⟩
    exact (S.led (l', _) (by walk_at "mm")).2.2.2 rfl


theorem keeps_refl (s : Shared) : Keeps s s := ⟨s.heap, s.toks, rfl, fun _ _ e => e⟩
def menus : List Str := [⟨#[46]⟩, ⟨#[46, 46, 46, 46, 45, 124, 35, 46]⟩, ⟨#[46, 45, 124, 35]⟩, ⟨#[46, 46, 35]⟩, ⟨#[46, 46, 46, 45, 124, 124]⟩, ⟨#[46, 35, 45, 46, 45, 46]⟩]
theorem menus_ok : ∀ m ∈ menus, 0 < m.length ∧ m.length ≤ 8 ∧ ∀ c ∈ m.cps.toList, c = 46 ∨ c = 45 ∨ c = 124 ∨ c = 35 := by decide +kernel
theorem getD_mem {α : Type} {l : List α} {k : Nat} {d : α} (h : k < l.length) : l.getD k d ∈ l := by
  have : l.getD k d = l[k] := by simp [List.getD, h]
  rw [this]; exact List.getElem_mem h
theorem agetD_mem {l : Array Nat} {k : Nat} {d : Nat} (h : k < l.size) : l.getD k d ∈ l.toList := by
  have : l.getD k d = l[k] := by simp [Array.getD, h]
  rw [this]; simp

theorem rows_spec {w : World} {A : Around} {s : Shared} {Q E : Value → Shared → Prop} {l : Addr} {ns : List Int} (G : Gr (Fl.kH w.params) s.heap) (R : Room A 2) (hl : IntL s.heap l ns) (hn : ns.length ≤ 63)
    (h : ∀ D ys k rows wd s', s.heap.get? D = none → s'.heap.get? D = some (lst ys k) → StrsAre ys.toList rows → Grid rows wd → Keeps s s' → Q (.ref D) s') : wpAny (model PP w) A (call (.ref 273) [.ref l]) Q E s := by
  refine' callP [(Str.ofString "_law_script", some (.ref l)), (Str.ofString "_law_first", none), (Str.ofString "_law_high", none), (Str.ofString "_law_wide", none), (Str.ofString "_law_menu", none), (Str.ofString "_law_rows_here", none), (Str.ofString "_law_row", none), (Str.ofString "_law_signs", none)] G (by walk_at "room") ?z_ho ?z_hcd ?z_hbind ?z_hd ?z_hb1 ?z_hb2 ?z_hρ ?_
  walk_at "enter"
  intro L s S
  walk_at "go"
  refine cell_at_spec (S.gr G) (R.in_ (by decide)) (hl.mono S.base) hn (by (first | lia | omega)) ?_
  walk_at "kpt"
  generalize cellAt ns 0 = first at S ⊢
  walk_at "gu"
  refine x_cutS S (fun ρ Λ => (∃ hi wi t u v, 0 ≤ hi ∧ hi ≤ 12 ∧ 0 ≤ wi ∧ wi ≤ 12 ∧ ρ = [(Str.ofString "_law_script", some (.ref l)), (Str.ofString "_law_first", some (.int first v)), (Str.ofString "_law_high", some (.int hi t)), (Str.ofString "_law_wide", some (.int wi u)), (Str.ofString "_law_menu", none), (Str.ofString "_law_rows_here", none), (Str.ofString "_law_row", none), (Str.ofString "_law_signs", none)]) ∧ Λ = []) ?_ ?_
  · intro Q' hQ
    walk_at "go"
    refine i_eq (fun hd => ?_) (fun hd => ?_)
    · walk_at "go"
      exact hQ _ _ _ ⟨⟨_, _, _, _, _, by (first | lia | omega), by (first | lia | omega), by (first | lia | omega), by (first | lia | omega), rfl⟩, rfl⟩ S
    · walk_at "go"
      exact hQ _ _ _ ⟨⟨_, _, _, _, _, by (first | lia | omega), by (first | lia | omega), by (first | lia | omega), by (first | lia | omega), rfl⟩, rfl⟩ S
  clear S
  rintro ρ' Λ' s ⟨⟨hi, wi, t, u, v, h0, h1, h2, h3, rfl⟩, rfl⟩ S
  refine x_cutS S (fun ρ Λ => (∃ hi wi t u v, 0 ≤ hi ∧ hi ≤ 12 ∧ 0 ≤ wi ∧ wi ≤ 12 ∧ ρ = [(Str.ofString "_law_script", some (.ref l)), (Str.ofString "_law_first", some (.int first v)), (Str.ofString "_law_high", some (.int hi t)), (Str.ofString "_law_wide", some (.int wi u)), (Str.ofString "_law_menu", none), (Str.ofString "_law_rows_here", none), (Str.ofString "_law_row", none), (Str.ofString "_law_signs", none)]) ∧ Λ = []) ?_ ?_
  · intro Q' hQ
    walk_at "go"
    refine i_eq (fun hd => ?_) (fun hd => ?_)
    · walk_at "go"
      exact hQ _ _ _ ⟨⟨_, _, _, _, _, by (first | lia | omega), by (first | lia | omega), by (first | lia | omega), by (first | lia | omega), rfl⟩, rfl⟩ S
    · walk_at "go"
      exact hQ _ _ _ ⟨⟨_, _, _, _, _, by (first | lia | omega), by (first | lia | omega), by (first | lia | omega), by (first | lia | omega), rfl⟩, rfl⟩ S
  clear S h0 h1 h2 h3
  rintro ρ' Λ' s ⟨⟨hi, wi, t, u, v, h0, h1, h2, h3, rfl⟩, rfl⟩ S
  refine x_cutS S (fun ρ Λ => (∃ hi wi t u v, 0 ≤ hi ∧ hi ≤ 12 ∧ 0 ≤ wi ∧ wi ≤ 12 ∧ ρ = [(Str.ofString "_law_script", some (.ref l)), (Str.ofString "_law_first", some (.int first v)), (Str.ofString "_law_high", some (.int hi t)), (Str.ofString "_law_wide", some (.int wi u)), (Str.ofString "_law_menu", none), (Str.ofString "_law_rows_here", none), (Str.ofString "_law_row", none), (Str.ofString "_law_signs", none)]) ∧ Λ = []) ?_ ?_
  · intro Q' hQ
    walk_at "go"
    refine i_eq (fun hd => ?_) (fun hd => ?_)
    · walk_at "go"
      refine i_eq (fun hd => ?_) (fun hd => ?_)
      · walk_at "go"
        exact hQ _ _ _ ⟨⟨_, _, _, _, _, by (first | lia | omega), by (first | lia | omega), by (first | lia | omega), by (first | lia | omega), rfl⟩, rfl⟩ S
      · walk_at "go"
        exact hQ _ _ _ ⟨⟨_, _, _, _, _, by (first | lia | omega), by (first | lia | omega), by (first | lia | omega), by (first | lia | omega), rfl⟩, rfl⟩ S
    · walk_at "go"
      exact hQ _ _ _ ⟨⟨_, _, _, _, _, by (first | lia | omega), by (first | lia | omega), by (first | lia | omega), by (first | lia | omega), rfl⟩, rfl⟩ S
  clear S h0 h1 h2 h3
  rintro ρ' Λ' s ⟨⟨hi, wi, th, tw, tf, h0, h1, h2, h3, rfl⟩, rfl⟩ S
  walk_at "go"
  refine l_new S (by simp) ?_; clear S; intro lm s S _
  walk_at "go"
  refine cell_at_spec (S.gr G) (R.in_ (by decide)) (hl.mono S.base) hn (by (first | lia | omega)) ?_
  walk_at "kpt"
  walk_at "go"
  have hmk : (cellAt ns 1 % 6).toNat < menus.length := by show _ < 6; (first | lia | omega)
  refine l_atS (ns := menus) (StrL.of (S.atLed (List.mem_cons_self ..)) (.cons _ _ (.cons _ _ (.cons _ _ (.cons _ _ (.cons _ _ (.cons _ _ .nil))))))) (by (first | lia | omega)) (by show _ < ((6 : Nat) : Int); (first | lia | omega)) (by decide) (by rfl) ?_
  intro tm
  obtain ⟨hm1, hm2, hm3⟩ := menus_ok _ (getD_mem (d := Str.empty) hmk)
  generalize menus.getD (cellAt ns 1 % 6).toNat Str.empty = menu at hm1 hm2 hm3 S ⊢
  replace S := S.tl rfl
  walk_at "go"
  refine l_new S (by decide) ?_; clear S; intro D s S _
  walk_at "go"
  refine r_range S ?_; clear S; intro r t1 t2 t3 s hr S
  refine it_range S R.handled hr (by (first | lia | omega)) (by (first | lia | omega)) ?_
  intro it s I
  refine loop_it (fun i ρ Λ => (∃ a b, ρ = [(Str.ofString "_law_script", some (.ref l)), (Str.ofString "_law_first", some (.int first tf)), (Str.ofString "_law_high", some (.int hi th)), (Str.ofString "_law_wide", some (.int wi tw)), (Str.ofString "_law_menu", some (.str menu tm)), (Str.ofString "_law_rows_here", some (.ref D)), (Str.ofString "_law_row", a), (Str.ofString "_law_signs", b)]) ∧
    ∃ ys k rows, Λ = [(D, lst ys k)] ∧ StrsAre ys.toList rows ∧ rows.length = i ∧ ∀ r ∈ rows, r.length = wi.toNat ∧ ∀ c ∈ r.cps.toList, four c) I ⟨⟨_, _, rfl⟩, _, _, [], rfl, .nil, rfl, fun _ h => nomatch h⟩ ?_ ?_ ?_
  · rintro i ρ' Λ' ⟨_, ys, k, rows, rfl, _⟩; rfl
  · rintro i v' ρ₁ Λ₁ hi1 ⟨tr, rfl⟩ ⟨⟨a, b, rfl⟩, ys, ky, rows, rfl, hys, hlen, hrows⟩
    refine ⟨_, .tail (.tail (.tail (.tail (.tail (.tail .head))))), ?_⟩
    walk_at "turn"
    refine' x_lc [(Str.ofString "_law_menu", some (.str menu tm)), (Str.ofString "_law_script", some (.ref l)), (Str.ofString "_law_row", some (.int i tr)), (Str.ofString "_law_wide", some (.int wi tw))] (fun _ => true) (FS fun x => ∃ c, x = ⟨#[c]⟩ ∧ four c) ?z_sw S ?z_ok ?z_hy ?z_ek ?z_sel ?_ ?z_hs
    case z_sw => rfl
    case z_ok => kernel_rfl
    case z_hy => kernel_rfl
    case z_ek => rfl
    case z_sel => exact Sel.cons (by walk_at "lk") (Sel.cons (by walk_at "lk") (Sel.cons (by walk_at "lk") (Sel.cons (by walk_at "lk") Sel.nil)))
    case z_hs => intro _; rfl
    walk_at "go"
    refine r_range S ?_; clear S; intro r t1 t2 t3 s hr S
    refine it_range S R.handled hr (by (first | lia | omega)) (by (first | lia | omega)) ?_
    intro it s I
    refine comp_it I (by (first | lia | omega)) ?_ ?_ ?_
    · intro C j v s E' hlt hv S
      exact tests0 ⟨rfl, keeps_refl _⟩
    · intro C j v s E' hlt hv hp S
      obtain ⟨t, rfl⟩ := hv
      walk_at "go"
      refine number_spec (S.gr G) (R.in_ (by decide)) (hl.mono (k.trans S.base)) hn ?_ ?_
      · have := Int.mul_nonneg (show 0 ≤ (i : Int) by (first | lia | omega)) h2
        (first | lia | omega)
      intro n t s' hn0 hk; replace S := CS.keeps S hk; clear hk
      walk_at "go"
      refine t_len S (by (first | lia | omega)) ?_; clear S; intro t s S
      have hml : 0 < (menu.length : Int) := by (first | lia | omega)
      walk_at "go"
      have e1 := Int.emod_nonneg n (Int.ne_of_gt hml)
      have e2 := Int.emod_lt_of_pos n hml
      refine t_at S e1 e2 (by (first | lia | omega)) (by rfl) ?_; clear S; intro t s S
      exact ⟨⟨_, _, rfl, _, rfl, hm3 _ (agetD_mem (by have : menu.cps.size = menu.length := rfl; (first | lia | omega)))⟩, S.quiet⟩
    · intro Ds ks yss vs g1 g2 g3 hD
      refine ⟨_, by walk_at "pt", fun s S => ?_⟩
      obtain ⟨xs, hx1, hx2, hx3⟩ := pairS g3
      rw [filt_true, g1] at hx2
      obtain ⟨j1, j2⟩ := join_signs xs hx3
      walk_at "go"
      have hsum : (xs.map (·.length)).sum + xs.length * (Str.ofString "").length ≤ 16777216 := by
        have e0 : (Str.ofString "").length = 0 := rfl
        have : (xs.map (·.length)).sum = xs.length := by
          clear hx1 hx2 j1 j2
          induction xs with
          | nil => rfl
          | cons x r ih =>
            obtain ⟨c, rfl, _⟩ := hx3 x (List.mem_cons_self ..)
            rw [List.map_cons, List.sum_cons, ih fun y hy => hx3 y (List.mem_cons_of_mem _ hy), List.length_cons]
            show 1 + _ = _
            (first | lia | omega)
        rw [e0, this, hx2]; (first | lia | omega)
      refine t_join S (StrL.of (S.atLed (List.mem_cons_self ..)) hx1) hsum ?_; clear S; intro tj s S
      walk_at "go"
      have hysz : ys.size = rows.length := by rw [← hys.length, Array.length_toList]
      refine l_append S (by walk_at "cf") (by (first | lia | omega)) ?_; clear S; intro k' s S
      walk_at "go"
      refine hNx _ _ _ _ (Sub.refl _) (S.tl rfl) ⟨⟨_, _, rfl⟩, _, _, rows ++ [Txt.join (Str.ofString "") xs], rfl, ?_, ?_, ?_⟩
      · rw [Array.toList_push]; exact hys.append' (.cons _ _ .nil)
      · simp [hlen]
      · intro r hr
        rcases List.mem_append.mp hr with q | q
        · exact hrows r q
        · rw [List.mem_singleton.mp q]
          exact ⟨by rw [j1, hx2], j2⟩
  · rintro ρ' Λ' s ⟨⟨a, b, rfl⟩, ys, ky, rows, rfl, hys, hlen, hrows⟩ S
    walk_at "go"
    refine h D ys ky rows (if rows = [] then 0 else wi.toNat) s ((S.led (D, _) (List.mem_cons_self ..)).2.2.2 rfl) (S.atLed (List.mem_cons_self ..)) hys ⟨by (first | lia | omega), by split <;> (first | lia | omega), fun r hr => ?_, fun e => if_pos e, fun r hr => (hrows r hr).2⟩ S.out
    rw [if_neg (List.ne_nil_of_mem hr)]
    exact (hrows r hr).1


theorem lmay_spec {w : World} {A : Around} {s : Shared} {Q E : Value → Shared → Prop} {l : Addr} {rows : List Str} {wd : Nat} {t u : Tok} {a c : Int} (G : Gr (Fl.kH w.params) s.heap) (R : Room A 1) (hl : StrL s.heap l rows) (g : Grid rows wd)
    (h : ∀ s', Keeps s s' → Q (.bool (mayL rows wd a c)) s') : wpAny (model PP w) A (call (.ref 280) [.ref l, .int a t, .int c u]) Q E s := by
  refine' callP [(Str.ofString "_law_rows_here", some (.ref l)), (Str.ofString "_law_one", some (.int a t)), (Str.ofString "_law_other", some (.int c u)), (Str.ofString "_law_wide", none), (Str.ofString "_law_a", none), (Str.ofString "_law_b", none)] G (by walk_at "room") ?z_ho ?z_hcd ?z_hbind ?z_hd ?z_hb1 ?z_hb2 ?z_hρ ?_
  walk_at "enter"
  intro L s S
  have hh := g.high
  have hww := g.wide
  have hcm : (wd : Int) * rows.length = rows.length * wd := Int.mul_comm ..
  refine x_cutS S (fun ρ Λ => (∃ tw, ρ = [(Str.ofString "_law_rows_here", some (.ref l)), (Str.ofString "_law_one", some (.int a t)), (Str.ofString "_law_other", some (.int c u)), (Str.ofString "_law_wide", some (.int wd tw)), (Str.ofString "_law_a", none), (Str.ofString "_law_b", none)]) ∧ Λ = []) ?_ ?_
  · intro Q' hQ
    walk_at "go"
    refine l_lenS S (hl.mono S.base) (by (first | lia | omega)) ?_; clear S; intro t s S
    walk_at "go"
    refine i_dec (fun hp => ?_) (fun hp => ?_)
    · walk_at "go"
      refine l_atS (hl.mono S.base) (by (first | lia | omega)) (by (first | lia | omega)) (by (first | lia | omega)) (by rfl) ?_
      intro t
      have hr0 := row_len g (show (0 : Int).toNat < rows.length by rw [Int.toNat_zero]; (first | lia | omega))
      walk_at "go"
      refine t_len S (by (first | lia | omega)) ?_; clear S; intro t s S
      rw [hr0]
      walk_at "go"
      exact hQ _ _ _ (jH1 _ rfl rfl) S
    · have hwd : wd = 0 := g.none (List.length_eq_zero_iff.mp (by (first | lia | omega)))
      subst hwd
      walk_at "go"
      exact hQ _ _ _ (jH1 _ rfl rfl) S
  clear S
  rintro ρ' Λ' s hJx
  refine jF1 hJx ?_
  clear hJx
  rintro tw rfl rfl S
  have hin : ∀ p : Int, inB rows wd p = (decide (0 ≤ p) && decide (p < wd * rows.length)) := fun p => by rw [inB, hcm]
  have hF : (inB rows wd a = false ∨ inB rows wd c = false) → mayL rows wd a c = false := fun q => by unfold mayL; rcases q with q | q <;> simp [q]
  walk_at "go"
  refine i_dec (fun p1 => ?_) (fun p1 => ?_)
  · walk_at "go"
    refine l_lenS S (hl.mono S.base) (by (first | lia | omega)) ?_; clear S; intro t s S
    walk_at "go"
    refine i_dec (fun p2 => ?_) (fun p2 => ?_)
    · walk_at "go"
      refine i_dec (fun p3 => ?_) (fun p3 => ?_)
      · walk_at "go"
        refine l_lenS S (hl.mono S.base) (by (first | lia | omega)) ?_; clear S; intro t s S
        walk_at "go"
        refine i_dec (fun p4 => ?_) (fun p4 => ?_)
        · skip
          have i1 : inB rows wd a = true := by rw [hin]; simp [p1, p2]
          have i2 : inB rows wd c = true := by rw [hin]; simp [p3, p4]
          have hm : mayL rows wd a c = (if a / wd = c / wd ∧ (a - c).natAbs = 1 then alongB (sg rows wd a) && alongB (sg rows wd c)
            else if a % wd = c % wd ∧ (a / wd - c / wd).natAbs = 1 then acrossB (sg rows wd a) && acrossB (sg rows wd c) else false) := by rw [mayL, i1, i2, Bool.and_true, Bool.true_and]
          rw [hm] at h
          obtain ⟨w1, a1, a2, a3, a4⟩ := g.at_ p1 (by (first | lia | omega) : a < rows.length * wd)
          obtain ⟨_, c1, c2, c3, c4⟩ := g.at_ p3 (by (first | lia | omega) : c < rows.length * wd)
          have hw1 : 0 < (wd : Int) := by (first | lia | omega)
          have e_along : Str.ofString ".-" = ⟨#[46, 45]⟩ := by decide +kernel
          have e_across : Str.ofString ".|" = ⟨#[46, 124]⟩ := by decide +kernel
          have hla := row_len g (show (a / wd).toNat < rows.length by (first | lia | omega))
          have hlc := row_len g (show (c / wd).toNat < rows.length by (first | lia | omega))
          walk_at "go"
          refine l_atS (hl.mono S.base) a1 a2 (by (first | lia | omega)) (by rfl) ?_
          intro t
          walk_at "go"
          refine t_at S a3 (by (first | lia | omega)) (by (first | lia | omega)) (by rfl) ?_; clear S; intro t s S
          walk_at "go"
          refine l_atS (hl.mono S.base) c1 c2 (by (first | lia | omega)) (by rfl) ?_
          intro t
          walk_at "go"
          refine t_at S c3 (by (first | lia | omega)) (by (first | lia | omega)) (by rfl) ?_; clear S; intro t s S
          walk_at "go"
          refine i_eq (fun q1 => ?_) (fun q1 => ?_)
          · walk_at "go"
            refine i_eq (fun q2 => ?_) (fun q2 => ?_)
            · walk_at "go"
              rw [if_pos (⟨q1, by (first | lia | omega)⟩ : a / wd = c / wd ∧ (a - c).natAbs = 1)] at h
              rw [e_along, along_in]
              refine i_bool (fun hf => ?_) (fun hf => ?_)
              · walk_at "go"
                rw [along_in]
                have := h _ S.out
                rw [show alongB (sg rows wd a) = true from hf, Bool.true_and] at this
                exact this
              · rw [hf]
                walk_at "go"
                have := h _ S.out
                rw [show alongB (sg rows wd a) = false from hf, Bool.false_and] at this
                exact this
            · walk_at "go"
              rw [if_neg (fun q => q2 (by (first | lia | omega)) : ¬ (a / wd = c / wd ∧ (a - c).natAbs = 1))] at h
              refine i_eq (fun q3 => ?_) (fun q3 => ?_)
              · walk_at "go"
                refine i_eq (fun q4 => ?_) (fun q4 => ?_)
                · walk_at "go"
                  rw [if_pos (⟨q3, by (first | lia | omega)⟩ : a % wd = c % wd ∧ (a / wd - c / wd).natAbs = 1)] at h
                  rw [e_across, across_in]
                  refine i_bool (fun hf => ?_) (fun hf => ?_)
                  · walk_at "go"
                    rw [across_in]
                    have := h _ S.out
                    rw [show acrossB (sg rows wd a) = true from hf, Bool.true_and] at this
                    exact this
                  · rw [hf]
                    walk_at "go"
                    have := h _ S.out
                    rw [show acrossB (sg rows wd a) = false from hf, Bool.false_and] at this
                    exact this
                · walk_at "go"
                  rw [if_neg (fun q => q4 (by (first | lia | omega)) : ¬ (a % wd = c % wd ∧ (a / wd - c / wd).natAbs = 1))] at h
                  exact h _ S.out
              · walk_at "go"
                rw [if_neg (fun q => q3 q.1 : ¬ (a % wd = c % wd ∧ (a / wd - c / wd).natAbs = 1))] at h
                exact h _ S.out
          · walk_at "go"
            rw [if_neg (fun q => q1 q.1 : ¬ (a / wd = c / wd ∧ (a - c).natAbs = 1))] at h
            refine i_eq (fun q3 => ?_) (fun q3 => ?_)
            · walk_at "go"
              refine i_eq (fun q4 => ?_) (fun q4 => ?_)
              · walk_at "go"
                rw [if_pos (⟨q3, by (first | lia | omega)⟩ : a % wd = c % wd ∧ (a / wd - c / wd).natAbs = 1)] at h
                rw [e_across, across_in]
                refine i_bool (fun hf => ?_) (fun hf => ?_)
                · walk_at "go"
                  rw [across_in]
                  have := h _ S.out
                  rw [show acrossB (sg rows wd a) = true from hf, Bool.true_and] at this
                  exact this
                · rw [hf]
                  walk_at "go"
                  have := h _ S.out
                  rw [show acrossB (sg rows wd a) = false from hf, Bool.false_and] at this
                  exact this
              · walk_at "go"
                rw [if_neg (fun q => q4 (by (first | lia | omega)) : ¬ (a % wd = c % wd ∧ (a / wd - c / wd).natAbs = 1))] at h
                exact h _ S.out
            · walk_at "go"
              rw [if_neg (fun q => q3 q.1 : ¬ (a % wd = c % wd ∧ (a / wd - c / wd).natAbs = 1))] at h
              exact h _ S.out
        · walk_at "go"
          have := h _ S.out
          rw [hF (Or.inr (by rw [hin]; simp [p3, p4]))] at this
          exact this
      · walk_at "go"
        have := h _ S.out
        rw [hF (Or.inr (by rw [hin]; simp [p3]))] at this
        exact this
    · walk_at "go"
      have := h _ S.out
      rw [hF (Or.inl (by rw [hin]; simp [p1, p2]))] at this
      exact this
  · walk_at "go"
    have := h _ S.out
    rw [hF (Or.inl (by rw [hin]; simp [p1]))] at this
    exact this


theorem lcells_spec {w : World} {A : Around} {s : Shared} {Q E : Value → Shared → Prop} {l : Addr} {rows : List Str} {wd : Nat} (G : Gr (Fl.kH w.params) s.heap) (R : Room A 1) (hl : StrL s.heap l rows) (g : Grid rows wd)
    (h : ∀ D ys k s', s.heap.get? D = none → s'.heap.get? D = some (lst ys k) → IntsAre ys.toList (cellsL rows wd) → Keeps s s' → Q (.ref D) s') : wpAny (model PP w) A (call (.ref 285) [.ref l]) Q E s := by
  refine' callP [(Str.ofString "_law_rows_here", some (.ref l)), (Str.ofString "_law_signs", none)] G (by walk_at "room") ?z_ho ?z_hcd ?z_hbind ?z_hd ?z_hb1 ?z_hb2 ?z_hρ ?_
  walk_at "enter"
  intro L s S
  have hh := g.high
  have hww := g.wide
  obtain ⟨hl1, hl2⟩ := len_wd g
  have hjl := joined_len g
  walk_at "go"
  have hsum : (rows.map (·.length)).sum + rows.length * (Str.ofString "").length ≤ 16777216 := by
    have e0 : (Str.ofString "").length = 0 := rfl
    have : (rows.map (·.length)).sum = rows.length * wd := by
      have hlen := g.len
      clear hjl hl1 hl2 hh hl h g S
      induction rows with
      | nil => simp
      | cons x r ih =>
        rw [List.map_cons, List.sum_cons, ih fun y hy => hlen y (List.mem_cons_of_mem _ hy), hlen x (List.mem_cons_self ..), List.length_cons, Nat.succ_mul]
        (first | lia | omega)
    rw [e0, this]; (first | lia | omega)
  refine t_join S (hl.mono S.base) hsum ?_; clear S; intro tj s S
  walk_at "go"
  refine' lc [(Str.ofString "_law_signs", some (.str (Txt.join (Str.ofString "") rows) tj))] (onI (hasB rows wd)) (FII id) S ?z_ok ?z_sel ?_ ?z_hs
  case z_ok => kernel_rfl
  case z_sel => exact Sel.cons (by walk_at "lk") Sel.nil
  case z_hs => intro _; rfl
  walk_at "go"
  refine t_len S (by (first | lia | omega)) ?_; clear S; intro t s S
  walk_at "go"
  refine r_range S ?_; clear S; intro r t1 t2 t3 s hr S
  refine it_range S R.handled hr (by (first | lia | omega)) (by (first | lia | omega)) ?_
  intro it s I
  refine comp_it I (by (first | lia | omega)) ?_ ?_ ?_
  · intro C i v s E' hlt hv S
    obtain ⟨t, rfl⟩ := hv
    refine tests1 ?_
    walk_at "go"
    have hil : (i : Int) < (Txt.join (Str.ofString "") rows).length := by (first | lia | omega)
    refine t_at S (by (first | lia | omega)) hil (by (first | lia | omega)) (by rfl) ?_; clear S; intro t s S
    walk_at "go"
    refine ⟨?_, S.quiet⟩
    have hw : 0 < wd := by
      rcases Nat.eq_zero_or_pos wd with q | q
      · rw [hjl, q] at hil; simp at hil; (first | lia | omega)
      · exact q
    have e35 : Str.ofString "#" = ⟨#[35]⟩ := by decide +kernel
    rw [Int.toNat_natCast, joined_get g i hw, e35, one_ne]
    show _ = (inB rows wd i && _)
    have : inB rows wd i = true := by simp [inB]; rw [hl2]; (first | lia | omega)
    rw [this, Bool.true_and]
  · intro C i v s E' hlt hv hp S
    obtain ⟨t, rfl⟩ := hv
    walk_at "go"
    exact ⟨⟨_, _, _, rfl, rfl⟩, S.quiet⟩
  · intro D k ys vs h1 h2 h3 hD s' S
    walk_at "go"
    refine h D ys k s' (I.cs.base.none hD) (S.atLed (List.mem_cons_self ..)) ?_ S.out
    have := pairII (filtI (vs_range h1 h2)) h3
    rw [hjl, Int.toNat_natCast, List.map_id] at this
    exact this



theorem whole_spec {w : World} {A : Around} {s : Shared} {Q E : Value → Shared → Prop} {n : Int} {t : Tok} (G : Gr (Fl.kH w.params) s.heap) (R : Room A 1)
    (h : ∀ s', Keeps s s' → Q (.bool true) s') : wpAny (model PP w) A (call (.ref 309) [.int n t]) Q E s := by
  refine' callP [(Str.ofString "_law_found", some (.int n t))] G (by walk_at "room") ?z_ho ?z_hcd ?z_hbind ?z_hd ?z_hb1 ?z_hb2 ?z_hρ ?_
  walk_at "enter"
  intro L s S
  walk_at "go"
  exact h _ S.out



theorem cells_len (rows : List Str) (wd : Nat) : (cellsL rows wd).length ≤ rows.length * wd := by
  unfold cellsL
  refine Nat.le_trans (List.length_filter_le ..) ?_
  simp



theorem lbeside_spec {w : World} {A : Around} {s : Shared} {Q E : Value → Shared → Prop} {l : Addr} {rows : List Str} {wd : Nat} {tp : Tok} {p : Int} (G : Gr (Fl.kH w.params) s.heap) (R : Room A 2) (hl : StrL s.heap l rows) (g : Grid rows wd) (hc : hasB rows wd p = true)
    (h : ∀ D ys k s', s.heap.get? D = none → s'.heap.get? D = some (lst ys k) → IntsAre ys.toList (besideL rows wd p) → Keeps s s' → Q (.ref D) s') : wpAny (model PP w) A (call (.ref 290) [.ref l, .int p tp]) Q E s := by
  refine' callP [(Str.ofString "_law_rows_here", some (.ref l)), (Str.ofString "_law_place", some (.int p tp)), (Str.ofString "_law_wide", none), (Str.ofString "_law_near", none)] G (by walk_at "room") ?z_ho ?z_hcd ?z_hbind ?z_hd ?z_hb1 ?z_hb2 ?z_hρ ?_
  walk_at "enter"
  intro L s S
  have hh := g.high
  have hww := g.wide
  obtain ⟨p0, p1⟩ := hasB_in hc
  obtain ⟨hw, a1, a2, _⟩ := g.at_ p0 p1
  have hr0 := row_len g (show (0 : Int).toNat < rows.length by rw [Int.toNat_zero]; (first | lia | omega))
  walk_at "go"
  refine l_atS (hl.mono S.base) (by (first | lia | omega)) (by (first | lia | omega)) (by (first | lia | omega)) (by rfl) ?_
  intro tt
  walk_at "go"
  refine t_len S (by (first | lia | omega)) ?_; clear S; intro tw s S
  rw [hr0]
  walk_at "go"
  refine l_new S (by simp) ?_; clear S; intro l1 s S _
  walk_at "gu"
  refine x_cutS S (fun ρ Λ => ∃ ln ys k, ρ = [(Str.ofString "_law_rows_here", some (.ref l)), (Str.ofString "_law_place", some (.int p tp)), (Str.ofString "_law_wide", some (.int wd tw)), (Str.ofString "_law_near", some (.ref ln))] ∧ Λ = [(ln, lst ys k)] ∧ IntsAre ys.toList (lnearL wd p) ∧ ys.size ≤ 4) ?_ ?_
  · intro Q' hQ
    walk_at "go"
    refine i_dec (fun q => ?_) (fun q => ?_)
    · walk_at "go"
      refine l_new S (by simp) ?_; clear S; intro l2 s S _
      walk_at "go"
      refine hQ _ _ _ (jI3 _ _ _ rfl rfl ⟨?_, by simp⟩) S.one
      rw [lnearL, if_pos (by (first | lia | omega))]
      exact .cons _ _ (.cons _ _ (.cons _ _ (.cons _ _ .nil)))
    · walk_at "go"
      refine hQ _ _ _ (jI3 _ _ _ rfl rfl ⟨?_, by simp⟩) S
      rw [lnearL, if_neg (by (first | lia | omega))]
      exact .cons _ _ (.cons _ _ .nil)
  clear S
  rintro ρ' Λ' s hJx
  refine jE3 hJx ?_
  clear hJx
  rintro ln yn kn rfl rfl ⟨hyn, hsz⟩ S
  refine jX3 (S.freeze) ?_
  clear S
  intro h₁ k₁ hln S
  replace G := G.mono k₁
  replace hl := hl.mono k₁
  walk_at "go"
  refine' lc [(Str.ofString "_law_rows_here", some (.ref l)), (Str.ofString "_law_place", some (.int p tp))] (onI (mayL rows wd p)) (FII id) S ?z_ok ?z_sel ?_ ?z_hs
  case z_ok => kernel_rfl
  case z_sel => exact Sel.cons (by walk_at "lk") (Sel.cons (by walk_at "lk") Sel.nil)
  case z_hs => intro _; rfl
  walk_at "go"
  refine it_list S R.handled hln rfl ⟨_, rfl⟩ ?_
  intro it s I
  refine comp_it I (by (first | lia | omega)) ?_ ?_ ?_
  · intro C i v s E' hlt hv S
    refine jY2 (hyn.at i v (by simpa using hv)) ?_
    rintro y ty rfl hy
    refine tests1 ?_
    walk_at "go"
    refine lmay_spec (S.gr G) (R.in_ (by decide)) (hl.mono S.base) g ?_
    walk_at "kp"
    walk_at "go"
    exact ⟨rfl, S.quiet⟩
  · intro C i v s E' hlt hv hp S
    refine jY2 (hyn.at i v (by simpa using hv)) ?_
    rintro y ty rfl hy
    walk_at "go"
    exact ⟨⟨_, _, _, rfl, rfl⟩, S.quiet⟩
  · intro D k ys vs h1 h2 h3 hD s' S
    walk_at "go"
    refine h D ys k s' (k₁.none (I.cs.base.none hD)) (S.atLed (List.mem_cons_self ..)) ?_ (S.outs k₁)
    have hv := vs_list h1 h2
    subst hv
    have := pairII (filtI hyn) h3
    rw [List.map_id] at this
    rw [beside_eq g hc]
    exact this


theorem big_heap {K : Frag} {h : Heap} (G : Gr K h) : 1 < h.objs.size := by
  obtain ⟨mg, o, es, ep, e, _⟩ := G.g
  exact Nat.lt_of_le_of_lt (show 1 ≤ mainGlobals by decide) (Heap.lt_size e)
theorem not_mods {d : Addr} (h : 1 < d) : (d == sysModules) = false := by
  rw [beq_eq_false_iff_ne]
  intro q
  rw [q] at h
  exact absurd h (by decide)
theorem mput_len {α : Type} (m : Mp α) (k : Int) (a : α) : (mput m k a).length ≤ m.length + 1 := by
  unfold mput
  split
  · rw [List.length_map]; (first | lia | omega)
  · rw [List.length_append]; simp
theorem mdel_len {α : Type} (m : Mp α) (k : Int) : (mdel m k).length ≤ m.length := List.length_filter_le ..
/-- a laying of the program's own: its floor, its dict -/
abbrev LayO (h : Heap) (ly fl d : Addr) : Prop := ObjAt h 250 ly [(Str.ofString "floor", .ref fl), (Str.ofString "over", .ref d)]
/-- the same by its two objects -/
structure LayP (h : Heap) (ly dx : Addr) (o2 : Obj) (fl d : Addr) : Prop where
  a1 : h.get? ly = some (instObj 250 dx)
  a2 : h.get? dx = some o2
  lk : ∀ n, lookIn n o2 = some (List.lookup n [(Str.ofString "floor", .ref fl), (Str.ofString "over", .ref d)])
theorem LayP.mono {h h' : Heap} {ly dx fl d : Addr} {o2 : Obj} (P : LayP h ly dx o2 fl d) (k : Sub h h') : LayP h' ly dx o2 fl d := ⟨k _ _ P.a1, k _ _ P.a2, P.lk⟩
theorem LayP.obj {h : Heap} {ly dx fl d : Addr} {o2 : Obj} (P : LayP h ly dx o2 fl d) : LayO h ly fl d :=
  ⟨(show [Str.ofString "floor", Str.ofString "over"].Nodup by decide +kernel), instObj 250 dx, o2, ⟨P.a1, rfl, rfl, P.a2⟩, P.lk⟩

theorem fieldsY {a b : Value} {n : Str} : (if n = Str.ofString "over" then some b else if n = Str.ofString "floor" then some a else none) = List.lookup n [(Str.ofString "floor", a), (Str.ofString "over", b)] := by
  have d1 : Str.ofString "floor" ≠ Str.ofString "over" := by decide +kernel
  simp only [List.lookup_cons, List.lookup_nil]
  by_cases h1 : n = Str.ofString "floor"
  · subst h1; simp [d1]
  · by_cases h2 : n = Str.ofString "over"
    · subst h2; simp [beq_eq_false_iff_ne.mpr d1.symm]
    · simp [h1, h2, beq_eq_false_iff_ne.mpr h1, beq_eq_false_iff_ne.mpr h2]

theorem laying_spec {w : World} {A : Around} {s : Shared} {Q E : Value → Shared → Prop} {fl : Addr} (G : Gr (Fl.kH w.params) s.heap) (R : Room A 3)
    (h : ∀ ly dx o2 d od s', LayP s'.heap ly dx o2 fl d → s.heap.get? ly = none → s.heap.get? dx = none → ly ≠ d → dx ≠ d → (∀ (α : Type) (Rv : α → Value → Prop), DG PP w Rv od []) → s.heap.get? d = none → s'.heap.get? d = some od → (d == sysModules) = false → Keeps s s' → Q (.ref ly) s') : wpAny (model PP w) A (call (.ref 250) [.ref fl]) Q E s := by
  refine' makeK (f := 207) (fun v => [(Str.ofString "self", v), (Str.ofString "floor", .ref fl)]) (fun v => [(Str.ofString "self", some v), (Str.ofString "floor", some (.ref fl))]) G (by walk_at "room") ?z_m ?z_i ?z_f ?z_ho ?z_hcd ?z_hbind ?z_hd ?z_hb1 ?z_hb2 ?z_hρ ?_
  case z_m => kernel_rfl
  case z_i => kernel_rfl
  case z_f => kernel_rfl
  case z_ho => k_is
  case z_hcd => k_is
  case z_hbind => intro _; rfl
  case z_hd => kernel_rfl
  case z_hb1 => intro _; kernel_rfl
  case z_hb2 => intro _; kernel_rfl
  case z_hρ => intro _; kernel_rfl
  intro x dx L s hx hdx S
  have hn0 := NsO.nil
  walk_at "go"
  walk_at "store"
  walk_at "go"
  have hbig := big_heap (S.gr G)
  refine d_new S ?_; clear S; intro d od s Dn S hd hdq
  walk_at "go"
  walk_at "store"
  walk_at "go"
  have nd := S.lnd
  simp only [List.map_cons, List.map_nil, List.nodup_cons, List.mem_cons, List.not_mem_nil, or_false, not_or] at nd
  refine ⟨rfl, h x dx _ d od _ ⟨S.atLed (by walk_at "mm"), S.atLed (by walk_at "mm"), fun n => ?_⟩ hx hdx (Ne.symm nd.1.1) (Ne.symm nd.1.2) Dn ((S.led (d, od) (List.mem_cons_self ..)).2.2.2 rfl) (S.atLed (List.mem_cons_self ..)) (not_mods (hdq ▸ hbig)) S.out⟩
  rw [NsO.look (by assumption), fieldsY]



theorem need_spec {w : World} {A : Around} {s : Shared} {Q E : Value → Shared → Prop} {ly fl l d : Addr} {rows : List Str} {wd : Nat} {t1 t2 tp : Tok} {p : Int} (G : Gr (Fl.kH w.params) s.heap) (R : Room A 3) (F : FloorAt 189 s.heap fl l rows wd t1 t2) (Y : LayO s.heap ly fl d) (hp : hasB rows wd p = true)
    (h : ∀ s', Keeps s s' → Q .none s') : wpAny (model PP w) A (call (.ref 214) [.ref ly, .int p tp]) Q E s := by
  refine' callP [(Str.ofString "self", some (.ref ly)), (Str.ofString "cell", some (.int p tp))] G (by walk_at "room") ?z_ho ?z_hcd ?z_hbind ?z_hd ?z_hb1 ?z_hb2 ?z_hρ ?_
  walk_at "enter"
  intro L s S
  walk_at "go"
  refine has_spec (S.gr G) (R.in_ (by decide)) (F.mono S.base) ?_
  walk_at "kp"
  rw [hp]
  walk_at "go"
  exact h _ S.out



theorem put_spec {w : World} {A : Around} {s : Shared} {Q E : Value → Shared → Prop} {ly fl l d : Addr} {od : Obj} {m : Mp Int} {rows : List Str} {wd : Nat} {t1 t2 ta tb : Tok} {a b : Int} {B : Heap} (hB : Sub B s.heap) (hd0 : B.get? d = none) (G : Gr (Fl.kH w.params) B) (R : Room A 4) (F : FloorAt 189 B fl l rows wd t1 t2) (Y : LayO B ly fl d)
    (hod : s.heap.get? d = some od) (D : DG PP w RInt od m) (hds : (d == sysModules) = false) (hm : mayB rows wd a b = true) (ha : mget m a = none) (hb : mget m b = none) (hlen : m.length ≤ 1000)
    (h : ∀ od' s', DG PP w RInt od' (mput (mput m a b) b a) → Upd d od' s s' → Q .none s') : wpAny (model PP w) A (call (.ref 221) [.ref ly, .int a ta, .int b tb]) Q E s := by
  obtain ⟨W, w1, w2, w3⟩ := but_one s d
  have kB : Sub B W := fun x o e => w3 x o (fun q => by rw [q, hd0] at e; cases e) (hB x o e)
  refine' callK (h₀ := W) (Λ := [(d, od)]) [(Str.ofString "self", some (.ref ly)), (Str.ofString "one", some (.int a ta)), (Str.ofString "other", some (.int b tb))] (G.mono hB) (by walk_at "room") ?z_ho ?z_hcd ?z_hbind ?z_hd ?z_hb1 ?z_hb2 ?z_hρ w1 (fun p hp => ?z_led) (by simp) ?_
  case z_led => rw [List.mem_singleton.mp hp]; exact ⟨hod, w2⟩
  walk_at "enter"
  intro L s S
  replace G := G.mono kB
  replace F := F.mono kB
  replace Y := ObjAt.mono Y kB
  have hh := mayB_has hm
  have hl1 := mput_len m a b
  walk_at "go"
  refine need_spec (S.gr G) (R.in_ (by decide)) (F.mono S.base) (ObjAt.mono Y S.base) hh.1 ?_
  walk_at "kp"
  walk_at "go"
  refine need_spec (S.gr G) (R.in_ (by decide)) (F.mono S.base) (ObjAt.mono Y S.base) hh.2 ?_
  walk_at "kp"
  walk_at "go"
  refine may_spec (S.gr G) (R.in_ (by decide)) (F.mono S.base) ?_
  walk_at "kp"
  (first | with_reducible refine jBt hm ?_ | with_reducible refine jBf hm ?_ | with_reducible refine jBn hm ?_ | with_reducible refine jBm hm ?_ | rw [hm])
  walk_at "go"
  refine d_in S (S.atLed (List.mem_cons_self ..)) D hds ?_; clear S; intro s S
  rw [ha, Option.isSome_none]
  walk_at "go"
  refine d_in S (S.atLed (List.mem_cons_self ..)) D hds ?_; clear S; intro s S
  rw [hb, Option.isSome_none]
  walk_at "go"
  refine d_set (a := b) S (by walk_at "cf") D ⟨_, rfl⟩ (by (first | lia | omega)) ?_; clear S; intro od1 s D1 S
  walk_at "go"
  refine d_set (a := a) S (by walk_at "cf") D1 ⟨_, rfl⟩ (by (first | lia | omega)) ?_; clear S; intro od2 s D2 S
  walk_at "go"
  exact h od2 s D2 ⟨S.same, fun x o hx e => S.base _ _ (w3 x o hx e), S.atLed (List.mem_cons_self ..)⟩



theorem lift_spec {w : World} {A : Around} {s : Shared} {Q E : Value → Shared → Prop} {ly fl l d : Addr} {od : Obj} {m : Mp Int} {rows : List Str} {wd : Nat} {t1 t2 ta : Tok} {a v : Int} {B : Heap} (hB : Sub B s.heap) (hd0 : B.get? d = none) (G : Gr (Fl.kH w.params) B) (R : Room A 4) (F : FloorAt 189 B fl l rows wd t1 t2) (Y : LayO B ly fl d)
    (hod : s.heap.get? d = some od) (D : DG PP w RInt od m) (hds : (d == sysModules) = false) (M : LayM (mayB rows wd) m) (hv : mget m a = some v) (hlen : m.length ≤ 1000)
    (h : ∀ od' s', DG PP w RInt od' (mdel (mdel m a) v) → Upd d od' s s' → Q .none s') : wpAny (model PP w) A (call (.ref 228) [.ref ly, .int a ta]) Q E s := by
  obtain ⟨W, w1, w2, w3⟩ := but_one s d
  have kB : Sub B W := fun x o e => w3 x o (fun q => by rw [q, hd0] at e; cases e) (hB x o e)
  refine' callK (h₀ := W) (Λ := [(d, od)]) [(Str.ofString "self", some (.ref ly)), (Str.ofString "cell", some (.int a ta)), (Str.ofString "other", none)] (G.mono hB) (by walk_at "room") ?z_ho ?z_hcd ?z_hbind ?z_hd ?z_hb1 ?z_hb2 ?z_hρ w1 (fun p hp => ?z_led) (by simp) ?_
  case z_led => rw [List.mem_singleton.mp hp]; exact ⟨hod, w2⟩
  walk_at "enter"
  intro L s S
  replace G := G.mono kB
  replace F := F.mono kB
  replace Y := ObjAt.mono Y kB
  obtain ⟨hva, hm⟩ := M.inv a v hv
  have hh := mayB_has hm
  have hav : v ≠ a := fun e => by have := M.inv a v hv; rw [e] at hm; exact (gph F.grid).ne hm rfl
  have hv2 : mget (mdel m a) v = some a := by rw [mget_mdel, if_neg hav]; exact hva
  have hl1 := mdel_len m a
  walk_at "go"
  refine need_spec (S.gr G) (R.in_ (by decide)) (F.mono S.base) (ObjAt.mono Y S.base) hh.1 ?_
  walk_at "kp"
  walk_at "go"
  refine d_notin S (S.atLed (List.mem_cons_self ..)) D hds ?_; clear S; intro s S
  rw [hv, Option.isSome_some]
  walk_at "go"
  refine m_dict (S.atLed (List.mem_cons_self ..)) D PySem.F.slot_dict_pop PySem.F.type_dict_pop ?_
  walk_at "go"
  refine d_pop S (by walk_at "cf") D hv (by (first | lia | omega)) ?_; clear S; intro x od1 s hx D1 S
  obtain ⟨tx, rfl⟩ := hx
  walk_at "go"
  refine m_dict (S.atLed (List.mem_cons_self ..)) D1 PySem.F.slot_dict_pop PySem.F.type_dict_pop ?_
  walk_at "go"
  refine d_pop S (by walk_at "cf") D1 hv2 (by (first | lia | omega)) ?_; clear S; intro x od2 s hx D2 S
  walk_at "go"
  exact h od2 s D2 ⟨S.same, fun x o hx e => S.base _ _ (w3 x o hx e), S.atLed (List.mem_cons_self ..)⟩


theorem it_listN {prog : Program} {w : World} {A : Around} {E : Value → Shared → Prop} {s s₀ : Shared} {h₀ : Heap} {env : Env} {ρ : Rho} {Λ : List (Addr × Obj)} {l : Addr} {ys : Array Value} {k : Nat} {Q : Value → Shared → Prop} (S : CS true s₀ h₀ env ρ Λ s) (hh : A.handled = none) (ho : s.heap.get? l = some (lst ys k)) (hno : ¬ CS.own env Λ l)
    (h : ∀ it s', It prog w A s₀ h₀ env ρ Λ ys.size (fun i v => ys[i]? = some v) it s' → Q it s') : wpAny (model prog w) A (pyIter (.ref l)) Q E s := by
  have hL : s.heap.IsList l ys := ⟨_, ho, rfl, _, rfl⟩
  have hlt : l < s.heap.objs.size := Heap.lt_size ho
  refine wpAny_pyIter_list hL (h _ _ ⟨s.heap.objs.size, _, _, _, rfl, Walks.list hh _ l (Nat.ne_of_lt hlt) ys, ⟨⟨_, Heap.get?_push_size _ rfl, rfl, rfl⟩, hL.at fun o e => Heap.get?_push_of_some _ e⟩, ?_, ?_, ?_, S.pushK _ _⟩)
  · intro a ha
    rw [Heap.size_push]
    rcases List.mem_cons.mp ha with rfl | ha
    · exact Nat.lt_succ_self _
    · rw [List.mem_singleton.mp ha]; exact Nat.lt_succ_of_lt hlt
  · intro a ha
    rw [List.mem_singleton.mp ha]
    exact S.base.none (fresh_none (Nat.le_refl _))
  · intro a ha ho'
    rcases List.mem_cons.mp ha with rfl | ha
    · obtain ⟨o', q⟩ := S.own_at ho'
      exact absurd (Heap.lt_size q) (Nat.lt_irrefl _)
    · rw [List.mem_singleton.mp ha] at ho'
      exact hno ho'

theorem bare_spec {w : World} {A : Around} {s : Shared} {Q E : Value → Shared → Prop} {ly fl l d : Addr} {od : Obj} {m : Mp Int} {rows : List Str} {wd : Nat} {t1 t2 : Tok} (G : Gr (Fl.kH w.params) s.heap) (R : Room A 4) (F : FloorAt 189 s.heap fl l rows wd t1 t2) (Y : LayO s.heap ly fl d) (hod : s.heap.get? d = some od) (D : DG PP w RInt od m) (hds : (d == sysModules) = false)
    (h : ∀ D ys k s', s.heap.get? D = none → s'.heap.get? D = some (lst ys k) → IntsAre ys.toList (bareL m (cellsL rows wd)) → Keeps s s' → Q (.ref D) s') : wpAny (model PP w) A (call (.ref 233) [.ref ly]) Q E s := by
  refine' callP [(Str.ofString "self", some (.ref ly))] G (by walk_at "room") ?z_ho ?z_hcd ?z_hbind ?z_hd ?z_hb1 ?z_hb2 ?z_hρ ?_
  walk_at "enter"
  intro L s S
  obtain ⟨hl1, hl2⟩ := len_wd F.grid
  have hcl := cells_len rows wd
  walk_at "go"
  refine' lc [(Str.ofString "self", some (.ref ly))] (onI (fun c => (mget m c).isNone)) (FII id) S ?z_ok ?z_sel ?_ ?z_hs
  case z_ok => kernel_rfl
  case z_sel => exact Sel.cons (by walk_at "lk") Sel.nil
  case z_hs => intro _; rfl
  walk_at "go"
  refine cells_spec (S.gr G) (R.in_ (by decide)) (F.mono S.base) ?_
  intro lc yc kc s' hD hD' hi hk
  have hno : ¬ CS.own _ [] lc := fun q => by obtain ⟨o, e⟩ := S.own_at q; rw [hD] at e; cases e
  replace S := CS.keeps S hk; clear hk
  have hyc : yc.size = (cellsL rows wd).length := by rw [← hi.length, Array.length_toList]
  refine it_listN S R.handled hD' hno ?_
  intro it s I
  refine comp_it I (by (first | lia | omega)) ?_ ?_ ?_
  · intro C i v s E' hlt hv S
    refine jY2 (hi.at i v (by simpa using hv)) ?_
    rintro c tc rfl hc
    refine tests1 ?_
    walk_at "go"
    refine d_notin S (S.atBase hod) D hds ?_; clear S; intro s S
    walk_at "go"
    refine ⟨?_, S.quiet⟩
    show _ = (mget m c).isNone
    cases mget m c <;> rfl
  · intro C i v s E' hlt hv hp S
    refine jY2 (hi.at i v (by simpa using hv)) ?_
    rintro c tc rfl hc
    walk_at "go"
    exact ⟨⟨_, _, _, rfl, rfl⟩, S.quiet⟩
  · intro D' k ys vs h1 h2 h3 hD2 s' S
    walk_at "go"
    refine h D' ys k s' (I.cs.base.none hD2) (S.atLed (List.mem_cons_self ..)) ?_ S.out
    have hv := vs_list h1 h2
    subst hv
    have := pairII (filtI hi) h3
    rw [List.map_id] at this
    exact this



/-- the slabs of a laying, by its cells rising -/
def slabsL (m : Mp Int) (ks : List Int) : List (Int × Int) := ks.filterMap fun c => match mget m c with
  | some v => if c < v then some (c, v) else none
  | none => none
def PairsIn (ys : List Value) (T : List (Addr × Obj)) (ps : List (Int × Int)) : Prop := ys.length = ps.length ∧ ∀ (j : Nat) (p : Int × Int), ps[j]? = some p → ∃ x t u, ys[j]? = some (Value.ref x) ∧ (x, tup #[.int p.1 t, .int p.2 u]) ∈ T
theorem CS.swap {s₀ s : Shared} {h₀ : Heap} {env : Env} {ρ : Rho} {p q : Addr × Obj} {Λ : List (Addr × Obj)} (S : CS true s₀ h₀ env ρ (p :: q :: Λ) s) : CS true s₀ h₀ env ρ (q :: p :: Λ) s := by
  have := S.lnd
  simp only [List.map_cons, List.nodup_cons, List.mem_cons, not_or] at this
  refine S.forget (fun x hx => ?_) ?_
  · simp only [List.mem_cons] at hx ⊢
    rcases hx with h | h | h
    · exact .inr (.inl h)
    · exact .inl h
    · exact .inr (.inr h)
  · simp only [List.map_cons, List.nodup_cons, List.mem_cons, not_or]
    exact ⟨⟨fun e => this.1.1 e.symm, this.2.1⟩, this.1.2, this.2.2⟩

theorem slabs_spec {w : World} {A : Around} {s : Shared} {Q E : Value → Shared → Prop} {ly fl d : Addr} {od : Obj} {m : Mp Int} {rows : List Str} {wd : Nat} (G : Gr (Fl.kH w.params) s.heap) (R : Room A 1) (Y : LayO s.heap ly fl d) (hod : s.heap.get? d = some od) (D : DG PP w RInt od m) (hds : (d == sysModules) = false) (M : LayM (mayB rows wd) m) (h64 : m.length ≤ 200)
    (h : ∀ D' ys k ks s', s.heap.get? D' = none → s'.heap.get? D' = some (lst ys k) → ks.Perm (m.map (·.1)) → ks.Pairwise (· ≤ ·) → (ys.size = (slabsL m ks).length ∧ ∀ (j : Nat) (p : Int × Int), (slabsL m ks)[j]? = some p → ∃ x t u, ys[j]? = some (Value.ref x) ∧ s.heap.get? x = none ∧ s'.heap.get? x = some (tup #[.int p.1 t, .int p.2 u])) → Keeps s s' → Q (.ref D') s') : wpAny (model PP w) A (call (.ref 240) [.ref ly]) Q E s := by
  refine' callP [(Str.ofString "self", some (.ref ly)), (Str.ofString "found", none), (Str.ofString "cell", none)] G (by walk_at "room") ?z_ho ?z_hcd ?z_hbind ?z_hd ?z_hb1 ?z_hb2 ?z_hρ ?_
  walk_at "enter"
  intro L s S
  walk_at "go"
  refine l_new S (by simp) ?_; clear S; intro lf s S _
  walk_at "go"
  refine d_list S R.handled (S.atBase hod) D hds (by (first | lia | omega)) ?_; clear S; intro l0 y0 k0 s hy0 S _
  walk_at "go"
  refine l_sorted S (IntL.of (S.atLed (List.mem_cons_self ..)) hy0) (by rw [List.length_map]; (first | lia | omega)) ?_; clear S; intro ls out e ks s hout hperm hsrt S _
  obtain ⟨h₁, k₁, hls, S'⟩ := S.freeze
  replace S := S'.tl rfl
  clear S'
  replace G := G.mono k₁
  replace Y := ObjAt.mono Y k₁
  have hod₁ := k₁ _ _ hod
  have hkl : ks.length ≤ 200 := by rw [hperm.length_eq, List.length_map]; exact h64
  have hcov : ∀ c ∈ ks, ∃ v, mget m c = some v := fun c hc => by
    have := hperm.mem_iff.mp hc
    cases e : mget m c with
    | some v => exact ⟨v, rfl⟩
    | none => exact absurd this (mget_none_iff.mp e)
  refine itx_list S R.handled hls rfl ⟨_, rfl⟩ ?_
  clear S
  intro it s I
  refine loop_itx (fun i ρ Λ => ∃ a ys k T, ρ = [(Str.ofString "self", some (.ref ly)), (Str.ofString "found", some (.ref lf)), (Str.ofString "cell", a)] ∧ Λ = (lf, lst ys k) :: T ∧ PairsIn ys.toList T (slabsL m (ks.take i)) ∧ ys.size ≤ i) I (jI4 _ _ _ [] rfl rfl ⟨⟨rfl, fun j p q => by simp [slabsL] at q⟩, Nat.le_refl _⟩) ?_ ?_
  · rintro i v ρ₁ Λ₁ hi1 hv hJx
    refine jE4 hJx ?_
    clear hJx
    rintro a ys ky T rfl rfl ⟨hP, hsz⟩
    refine jY2 (hout.at i v (by simpa using hv)) ?_
    rintro c tc rfl hc
    have hik : i < ks.length := by rw [← hout.length, Array.length_toList]; exact hi1
    obtain ⟨x, hx⟩ := hcov c (List.mem_of_getElem? hc)
    have et : ks.take (i + 1) = ks.take i ++ [c] := by rw [List.take_add_one, hc]; rfl
    have es : slabsL m (ks.take (i + 1)) = slabsL m (ks.take i) ++ (if c < x then [(c, x)] else []) := by
      rw [et]
      unfold slabsL
      rw [List.filterMap_append]
      congr 1
      simp only [List.filterMap_cons, List.filterMap_nil, hx]
      split <;> rename_i hq <;> split at hq <;> simp_all
    refine ⟨_, .tail (.tail .head), ?_⟩
    walk_at "turn"
    replace Y := ObjAt.mono Y k
    have hod₂ := k _ _ hod₁
    clear k
    walk_at "go"
    refine d_at S (S.atBase hod₂) D hx (by rfl) ?_; clear S; intro vx s hvx S
    refine jY1 hvx ?_
    rintro tx rfl
    walk_at "go"
    refine i_dec (fun hlt => ?_) (fun hlt => ?_)
    · walk_at "go"
      refine d_at S (S.atBase hod₂) D hx (by rfl) ?_; clear S; intro vx s hvx S
      refine jY1 hvx ?_
      rintro tx2 rfl
      walk_at "go"
      refine u_new S (by simp) ?_; clear S; intro tu s S _
      replace S := S.swap
      walk_at "go"
      refine l_append S (by walk_at "cf") (by (first | lia | omega)) ?_; clear S; intro k' s S
      walk_at "go"
      refine hNx _ _ _ _ (Sub.refl _) S (jI4 _ _ _ _ rfl rfl ⟨?_, by rw [Array.size_push]; (first | lia | omega)⟩)
      rw [es, if_pos hlt, Array.toList_push]
      refine ⟨by rw [List.length_append, List.length_append, hP.1]; rfl, fun j p q => ?_⟩
      rw [List.getElem?_append] at q
      split at q
      · rename_i hj
        obtain ⟨x', t', u', q1, q2⟩ := hP.2 j p q
        refine ⟨x', t', u', ?_, List.mem_cons_of_mem _ q2⟩
        rw [List.getElem?_append_left (by rw [hP.1]; exact hj)]; exact q1
      · rename_i hj
        have hj0 : j - (slabsL m (ks.take i)).length = 0 := by
          cases hz : j - (slabsL m (ks.take i)).length with
          | zero => rfl
          | succ n => rw [hz] at q; simp at q
        rw [hj0] at q
        simp at q
        subst q
        refine ⟨tu, _, _, ?_, List.mem_cons_self ..⟩
        have : j = ys.toList.length := by rw [hP.1]; (first | lia | omega)
        rw [this, List.getElem?_append_right (Nat.le_refl _)]
        simp
    · walk_at "go"
      refine hNx _ _ _ _ (Sub.refl _) S (jI4 _ _ _ _ rfl rfl ⟨?_, by (first | lia | omega)⟩)
      rw [es, if_neg hlt, List.append_nil]
      exact hP
  clear I
  rintro ρ' Λ' s hJx
  refine jE4 hJx ?_
  clear hJx
  rintro a ys k T rfl rfl ⟨hP, hsz⟩ S
  have hol : out.size = ks.length := by rw [← hout.length, Array.length_toList]
  rw [hol, List.take_length] at hP
  walk_at "go"
  refine h lf ys k ks s (k₁.none ((S.led (lf, _) (List.mem_cons_self ..)).2.2.2 rfl)) (S.atLed (List.mem_cons_self ..)) hperm hsrt ⟨by rw [← hP.1, Array.length_toList], fun j p q => ?_⟩ (S.outs k₁)
  obtain ⟨x, t, u, q1, q2⟩ := hP.2 j p q
  have q3 := List.mem_cons_of_mem (lf, lst ys k) q2
  exact ⟨x, t, u, by rw [← Array.getElem?_toList]; exact q1, k₁.none ((S.led _ q3).2.2.2 rfl), S.atLed q3⟩


/-- slabs laid again one by one -/
structure Cpy (may : Int → Int → Bool) (m : Mp Int) (ps : List (Int × Int)) (i : Nat) (m' : Mp Int) : Prop where
  lay : LayM may m'
  sub : ∀ x y, mget m' x = some y → mget m x = some y
  on : ∀ p ∈ ps.take i, mget m' p.1 = some p.2
  off : ∀ p ∈ ps.drop i, mget m' p.1 = none ∧ mget m' p.2 = none
theorem slabs_mem {m : Mp Int} {ks : List Int} {a b : Int} : (a, b) ∈ slabsL m ks ↔ a ∈ ks ∧ mget m a = some b ∧ a < b := by
  unfold slabsL
  rw [List.mem_filterMap]
  constructor
  · rintro ⟨c, hc, e⟩
    cases q : mget m c with
    | none => rw [q] at e; cases e
    | some v =>
      rw [q] at e
      dsimp only at e
      split at e
      · cases e; exact ⟨hc, q, by assumption⟩
      · cases e
  · rintro ⟨h1, h2, h3⟩
    exact ⟨a, h1, by rw [h2]; dsimp only; rw [if_pos h3]⟩
theorem slabs_nodup {m : Mp Int} : ∀ {ks : List Int}, ks.Nodup → ((slabsL m ks).map (·.1)).Nodup
  | [], _ => List.nodup_nil
  | c :: r, nd => by
    rw [List.nodup_cons] at nd
    have ih := slabs_nodup (m := m) nd.2
    have hcr : c ∉ (slabsL m r).map (·.1) := fun h => by
      obtain ⟨p, hp, e⟩ := List.mem_map.mp h
      have := (slabs_mem (a := p.1) (b := p.2)).mp hp
      rw [e] at this
      exact nd.1 this.1
    have e : slabsL m (c :: r) = (match mget m c with | some v => if c < v then [(c, v)] else [] | none => []) ++ slabsL m r := by
      unfold slabsL
      rw [List.filterMap_cons]
      cases mget m c with
      | none => rfl
      | some v =>
        dsimp only
        split
        · rename_i q; split at q <;> simp_all
        · rename_i q; split at q <;> simp_all
    rw [e]
    cases mget m c with
    | none => exact ih
    | some v =>
      dsimp only
      split
      · rw [List.map_append]; exact List.nodup_cons.mpr ⟨hcr, ih⟩
      · exact ih
theorem Cpy.start {may : Int → Int → Bool} {m : Mp Int} {ps : List (Int × Int)} : Cpy may m ps 0 [] :=
  ⟨LayM.nil may, fun _ _ h => by simp [mget] at h, fun p h => by simp at h, fun p _ => ⟨rfl, rfl⟩⟩
theorem Cpy.put {may : Int → Int → Bool} {sh : Int → Int} {m m' : Mp Int} {ks : List Int} {i : Nat} {a b : Int} (g : Gph may sh) (M : LayM may m) (nd : ks.Nodup) (c : Cpy may m (slabsL m ks) i m') (h : (slabsL m ks)[i]? = some (a, b)) :
    may a b = true ∧ mget m' a = none ∧ mget m' b = none ∧ Cpy may m (slabsL m ks) (i + 1) (mput (mput m' a b) b a) := by
  have hmem := slabs_mem.mp (List.mem_of_getElem? h)
  obtain ⟨hk, hab, hlt⟩ := hmem
  obtain ⟨hba, hmay⟩ := M.inv a b hab
  have hdrop : (slabsL m ks).drop i = (a, b) :: (slabsL m ks).drop (i + 1) := by
    obtain ⟨hi, e⟩ := List.getElem?_eq_some_iff.mp h
    rw [List.drop_eq_getElem_cons hi, e]
  have hoff := c.off (a, b) (by rw [hdrop]; exact List.mem_cons_self ..)
  refine ⟨hmay, hoff.1, hoff.2, c.lay.put g hmay hoff.1 hoff.2, fun x y q => ?_, fun p hp => ?_, fun p hp => ?_⟩
  · rw [mget_mput, mget_mput] at q
    by_cases x1 : x = b
    · rw [if_pos x1] at q; cases q; rw [x1]; exact hba
    · rw [if_neg x1] at q
      by_cases x2 : x = a
      · rw [if_pos x2] at q; cases q; rw [x2]; exact hab
      · rw [if_neg x2] at q; exact c.sub x y q
  · rw [List.take_add_one, h] at hp
    rw [mget_mput, mget_mput]
    rcases List.mem_append.mp hp with q | q
    · have e := c.on p q
      have p1 : p.1 ≠ b := fun z => by rw [z, hoff.2] at e; cases e
      have p2 : p.1 ≠ a := fun z => by rw [z, hoff.1] at e; cases e
      rw [if_neg p1, if_neg p2]; exact e
    · simp at q; subst q
      have : a ≠ b := by (first | lia | omega)
      rw [if_neg this, if_pos rfl]
  · obtain ⟨a', b'⟩ := p
    have hp0 : (a', b') ∈ (slabsL m ks).drop i := by rw [hdrop]; exact List.mem_cons_of_mem _ hp
    have ho := c.off _ hp0
    obtain ⟨_, hab', hlt'⟩ := slabs_mem.mp (List.mem_of_mem_drop hp)
    obtain ⟨hba', _⟩ := M.inv a' b' hab'
    have hne : a' ≠ a := fun e => by
      have hnd := (slabs_nodup (m := m) nd).sublist (List.Sublist.map (fun x : Int × Int => x.1) (List.drop_sublist i (slabsL m ks)))
      rw [hdrop, List.map_cons, List.nodup_cons] at hnd
      exact hnd.1 (List.mem_map.mpr ⟨(a', b'), hp, e⟩)
    have e1 : a' ≠ b := fun e => by rw [e, hba] at hab'; cases hab'; (first | lia | omega)
    have e2 : b' ≠ a := fun e => by rw [e, hab] at hba'; cases hba'; (first | lia | omega)
    have e3 : b' ≠ b := fun e => by rw [e, hba] at hba'; cases hba'; exact hne rfl
    refine ⟨?_, ?_⟩
    · rw [mget_mput, mget_mput, if_neg e1, if_neg hne]; exact ho.1
    · rw [mget_mput, mget_mput, if_neg e3, if_neg e2]; exact ho.2
theorem Cpy.all {may : Int → Int → Bool} {sh : Int → Int} {m m' : Mp Int} {ks : List Int} (g : Gph may sh) (M : LayM may m) (hk : ks.Perm (m.map (·.1))) (c : Cpy may m (slabsL m ks) (slabsL m ks).length m') : ∀ x, mget m' x = mget m x := by
  have on : ∀ a b, mget m a = some b → a < b → mget m' a = some b := fun a b h hlt => by
    have hin : a ∈ ks := hk.mem_iff.mpr (List.mem_map.mpr ⟨(a, b), mget_mem h, rfl⟩)
    exact c.on (a, b) (by rw [List.take_length]; exact slabs_mem.mpr ⟨hin, h, hlt⟩)
  intro x
  cases e : mget m x with
  | none =>
    cases e' : mget m' x with
    | none => rfl
    | some y => have := c.sub x y e'; rw [e] at this; cases this
  | some y =>
    obtain ⟨h1, h2⟩ := M.inv x y e
    have hne := g.ne h2
    by_cases q : x < y
    · exact on x y e q
    · have := on y x h1 (by (first | lia | omega))
      exact (c.lay.inv y x this).1

theorem copied_spec {w : World} {A : Around} {s : Shared} {Q E : Value → Shared → Prop} {ly fl l d : Addr} {od : Obj} {m : Mp Int} {rows : List Str} {wd : Nat} {t1 t2 : Tok} (G : Gr (Fl.kH w.params) s.heap) (R : Room A 6) (F : FloorAt 189 s.heap fl l rows wd t1 t2) (Y : LayO s.heap ly fl d) (hod : s.heap.get? d = some od) (D : DG PP w RInt od m) (hds : (d == sysModules) = false) (M : LayM (mayB rows wd) m) (h64 : m.length ≤ 200)
    (h : ∀ ly' dx o2 d' od' m' s', LayP s'.heap ly' dx o2 fl d' → s.heap.get? ly' = none → s.heap.get? dx = none → ly' ≠ d' → dx ≠ d' → DG PP w RInt od' m' → LayM (mayB rows wd) m' → (∀ x, mget m' x = mget m x) → m'.length ≤ 400 → s.heap.get? d' = none → s'.heap.get? d' = some od' → (d' == sysModules) = false → Keeps s s' → Q (.ref ly') s') : wpAny (model PP w) A (call (.ref 247) [.ref ly]) Q E s := by
  refine' callP [(Str.ofString "self", some (.ref ly)), (Str.ofString "made", none), (Str.ofString "pair", none)] G (by walk_at "room") ?z_ho ?z_hcd ?z_hbind ?z_hd ?z_hb1 ?z_hb2 ?z_hρ ?_
  walk_at "enter"
  intro L s S
  have g := gph F.grid
  walk_at "go"
  refine laying_spec (S.gr G) (R.in_ (by decide)) ?_
  intro ly' dx o2 d' od0 s' P n1 n2 ne1 ne2 Dn hd' hd'' hds' hk
  obtain ⟨h₁, k₁, S', hall⟩ := S.adoptW hk hd' hd''
  have n1' := S.base.none n1
  have n2' := S.base.none n2
  have n3' := S.base.none hd'
  replace S := S'
  clear S'
  have P₁ : LayP h₁ ly' dx o2 fl d' := ⟨hall _ _ n1 ne1 P.a1, hall _ _ n2 ne2 P.a2, P.lk⟩
  clear P hall hk
  replace G := G.mono k₁
  replace F := F.mono k₁
  replace Y := ObjAt.mono Y k₁
  have hod₁ := k₁ _ _ hod
  walk_at "go"
  refine slabs_spec (S.gr G) (R.in_ (by decide)) (ObjAt.mono Y S.base) (S.atBase hod₁) D hds M h64 ?_
  intro lp yp kp ks s' hlp hlp' hperm _ hprs hk
  refine jX3 (CS.gnew S hk) ?_
  clear S
  intro h₂ k₂ S hN
  replace G := G.mono k₂
  replace F := F.mono k₂
  replace P₁ := P₁.mono k₂
  have B := k₁.trans k₂
  have hol := hN _ _ hlp hlp'
  have hpr : ∀ (j : Nat) (p : Int × Int), (slabsL m ks)[j]? = some p → ∃ x t u, yp[j]? = some (Value.ref x) ∧ h₂.get? x = some (tup #[.int p.1 t, .int p.2 u]) := fun j p q => by
    obtain ⟨x, t, u, a, b, c⟩ := hprs.2 j p q
    exact ⟨x, t, u, a, hN _ _ b c⟩
  have hsz := hprs.1
  clear hprs hk hN hlp hlp' Y
  have Y := P₁.obj
  have hnd : ks.Nodup := hperm.nodup_iff.mpr M.nd
  have hpl : (slabsL m ks).length ≤ ks.length := List.length_filterMap_le ..
  have hkl : ks.length ≤ 200 := by rw [hperm.length_eq, List.length_map]; exact h64
  refine it_list S R.handled hol rfl ⟨_, rfl⟩ ?_
  clear S
  intro it s I
  refine loop_it (fun i ρ Λ => ∃ a od1 m1, ρ = [(Str.ofString "self", some (.ref ly)), (Str.ofString "made", some (.ref ly')), (Str.ofString "pair", a)] ∧ Λ = [(d', od1)] ∧ DG PP w RInt od1 m1 ∧ Cpy (mayB rows wd) m (slabsL m ks) i m1 ∧ m1.length ≤ 2 * i) I (jI3 _ _ _ rfl rfl ⟨Dn _ _, Cpy.start, Nat.le_refl _⟩) ?_ ?_ ?_
  · intro i ρ' Λ' hJx; exact jE3 hJx fun _ _ _ _ e _ => by rw [e]; rfl
  · rintro i v ρ₁ Λ₁ hi1 hv hJx
    refine jE3 hJx ?_
    clear hJx
    rintro a od1 m1 rfl rfl ⟨D1, C1, hl1⟩
    obtain ⟨⟨pa, pb⟩, hp⟩ : ∃ p, (slabsL m ks)[i]? = some p := ⟨(slabsL m ks)[i]'(by (first | lia | omega)), by simp⟩
    obtain ⟨x, tx, ux, e1, e2⟩ := hpr i _ hp
    rw [e1] at hv
    cases hv
    obtain ⟨q1, q2, q3, C2⟩ := C1.put g M hnd hp
    refine ⟨_, .tail (.tail .head), ?_⟩
    walk_at "turn"
    replace F := F.mono k
    replace Y := ObjAt.mono Y k
    have e2' := k _ _ e2
    clear k
    walk_at "go"
    refine u_at (S.atBase e2') (.inl ⟨rfl, rfl⟩) (by rfl) ?_
    walk_at "go"
    refine u_at (S.atBase e2') (.inr ⟨rfl, rfl⟩) (by rfl) ?_
    walk_at "go"
    refine put_spec S.base ((S.led (d', od1) (List.mem_cons_self ..)).2.2.2 rfl) G (R.in_ (by decide)) F Y (S.atLed (List.mem_cons_self ..)) D1 hds' q1 q2 q3 (by (first | lia | omega)) ?_
    intro od2 s' D2 up
    replace S := S.upd (by walk_at "cf") up
    walk_at "go"
    refine hNx _ _ _ _ (Sub.refl _) S (jI3 _ _ _ rfl rfl ⟨D2, C2, ?_⟩)
    have z1 := mput_len m1 pa pb
    have z2 := mput_len (mput m1 pa pb) pb pa
    show (mput (mput m1 pa pb) pb pa).length ≤ _
    (first | lia | omega)
  clear I
  rintro ρ' Λ' s hJx
  refine jE3 hJx ?_
  clear hJx
  rintro a od1 m1 rfl rfl ⟨D1, C1, hl1⟩ S
  rw [hsz] at C1 hl1
  walk_at "go"
  exact h ly' dx o2 d' od1 m1 s (P₁.mono S.base) n1' n2' ne1 ne2 D1 C1.lay (C1.all g M hperm) (by (first | lia | omega)) n3' (S.atLed (List.mem_cons_self ..)) hds' (S.outs B)


theorem lay_cells {rows : List Str} {wd : Nat} {m : Mp Int} (M : LayM (mayB rows wd) m) : ∀ k v, mget m k = some v → k ∈ cellsL rows wd := fun k v h => by
  have := (mayB_has (M.inv k v h).2).1
  rw [← cells_mem] at this
  exact of_decide_eq_true this
theorem lay_len {rows : List Str} {wd : Nat} {m : Mp Int} (M : LayM (mayB rows wd) m) : m.length ≤ (cellsL rows wd).length := by
  rw [← List.length_map (f := (·.1))]
  refine nodup_len M.nd fun c hc => ?_
  obtain ⟨⟨k, x⟩, hp, rfl⟩ := List.mem_map.mp hc
  exact lay_cells M k x (mget_of_mem M.nd hp)


theorem gf_over (w : World) : GF (Fl.kH w.params) (Str.ofString "_law_over") 295 := ⟨by kernel_rfl, by kernel_rfl, by kernel_rfl⟩
theorem gf_made (w : World) : GF (Fl.kH w.params) (Str.ofString "_law_made") 302 := ⟨by kernel_rfl, by kernel_rfl, by kernel_rfl⟩
theorem gf_lies (w : World) : GF (Fl.kH w.params) (Str.ofString "_law_lies") 316 := ⟨by kernel_rfl, by kernel_rfl, by kernel_rfl⟩
theorem gf_gone (w : World) : GF (Fl.kH w.params) (Str.ofString "_law_gone") 321 := ⟨by kernel_rfl, by kernel_rfl, by kernel_rfl⟩
theorem gf_covered (w : World) : GF (Fl.kH w.params) (Str.ofString "_law_covered") 328 := ⟨by kernel_rfl, by kernel_rfl, by kernel_rfl⟩
theorem gf_put_again (w : World) : GF (Fl.kH w.params) (Str.ofString "_law_put_again") 335 := ⟨by kernel_rfl, by kernel_rfl, by kernel_rfl⟩
theorem gf_bare_taken (w : World) : GF (Fl.kH w.params) (Str.ofString "_law_bare_taken") 342 := ⟨by kernel_rfl, by kernel_rfl, by kernel_rfl⟩
theorem gf_told_well (w : World) : GF (Fl.kH w.params) (Str.ofString "_law_told_well") 347 := ⟨by kernel_rfl, by kernel_rfl, by kernel_rfl⟩
theorem is_Laying (w : World) : isIn (Fl.kH w.params) (.ref 250) 250 = true := by kernel_rfl
theorem gb_dict (w : World) : GB (Fl.kH w.params) (Str.ofString "dict") (.type "dict") := ⟨by kernel_rfl, by kernel_rfl, by decide +kernel, by kernel_rfl⟩
set_option hygiene false in
local macro_rules | `(tactic| walk_at "gf") => `(tactic| with_reducible first | exact gf_over _ | exact gf_made _ | exact gf_lreached _ | exact gf_paints _ | exact gf_less _ | exact gf_painted _ | exact gf_sparing _ | exact gf_link _ | exact gf_lway _ | exact gf_lies _ | exact gf_gone _ | exact gf_covered _ | exact gf_put_again _ | exact gf_bare_taken _ | exact gf_told_well _ | exact gf_again _)
set_option hygiene false in
local macro_rules | `(tactic| walk_at "gb") => `(tactic| with_reducible first | exact gb_dict _)


theorem over_spec {w : World} {A : Around} {s : Shared} {Q E : Value → Shared → Prop} {lr l : Addr} {rows : List Str} {wd : Nat} {ns : List Int} {many : Int} {tm : Tok} (G : Gr (Fl.kH w.params) s.heap) (R : Room A 4) (hr : StrL s.heap lr rows) (g : Grid rows wd) (hl : IntL s.heap l ns) (hn : ns.length ≤ 63) (hm0 : 0 ≤ many) (hm1 : many ≤ 100)
    (h : ∀ d od m s', s.heap.get? d = none → s'.heap.get? d = some od → (d == sysModules) = false → DG PP w RInt od m → LayM (mayB rows wd) m → Keeps s s' → Q (.ref d) s') : wpAny (model PP w) A (call (.ref 295) [.ref lr, .ref l, .int many tm]) Q E s := by
  refine' callP [(Str.ofString "_law_rows_here", some (.ref lr)), (Str.ofString "_law_script", some (.ref l)), (Str.ofString "_law_many", some (.int many tm)), (Str.ofString "_law_over_here", none), (Str.ofString "_law_cells_here", none), (Str.ofString "_law_k", none), (Str.ofString "_law_cell", none), (Str.ofString "_law_other", none), (Str.ofString "_law_near", none)] G (by walk_at "room") ?z_ho ?z_hcd ?z_hbind ?z_hd ?z_hb1 ?z_hb2 ?z_hρ ?_
  walk_at "enter"
  intro L s S
  have gg := gph g
  have hbig := big_heap (S.gr G)
  have hcl := cells_len rows wd
  have hlw := (len_wd g).1
  walk_at "go"
  refine d_new S ?_; clear S; intro d od s Dn S hd hdq
  have hds := not_mods (hdq ▸ hbig)
  have nd := (S.led (d, od) (List.mem_cons_self ..)).2.2.2 rfl
  walk_at "go"
  refine lcells_spec (S.gr G) (R.in_ (by decide)) (hr.mono S.base) g ?_
  intro lc yc kc s' hD hD' hi hk
  refine jX3 (CS.gnew S hk) ?_
  clear S
  intro h₁ k₁ S hN
  replace G := G.mono k₁
  replace hr := hr.mono k₁
  replace hl := hl.mono k₁
  have hC : IntL h₁ lc (cellsL rows wd) := IntL.of (hN _ _ hD hD') hi
  clear hk hN hD hD'
  walk_at "go"
  refine r_range S ?_; clear S; intro r t1 t2 t3 s hr' S
  refine it_range S R.handled hr' (by (first | lia | omega)) (by (first | lia | omega)) ?_
  clear S
  intro it s I
  refine loop_it (fun i ρ Λ => ∃ a b c e od m, ρ = [(Str.ofString "_law_rows_here", some (.ref lr)), (Str.ofString "_law_script", some (.ref l)), (Str.ofString "_law_many", some (.int many tm)), (Str.ofString "_law_over_here", some (.ref d)), (Str.ofString "_law_cells_here", some (.ref lc)), (Str.ofString "_law_k", a), (Str.ofString "_law_cell", b), (Str.ofString "_law_other", c), (Str.ofString "_law_near", e)] ∧ Λ = [(d, od)] ∧ DG PP w RInt od m ∧ LayM (mayB rows wd) m) I (jI6 _ _ _ _ _ _ rfl rfl ⟨Dn _ _, LayM.nil _⟩) ?_ ?_ ?_
  · intro i ρ' Λ' hJx; exact jE6 hJx fun _ _ _ _ _ _ _ e _ => by rw [e]; rfl
  · rintro i v ρ₁ Λ₁ hi1 ⟨tk, rfl⟩ hJx
    refine jE6 hJx ?_
    clear hJx
    rintro a b c e od m rfl rfl ⟨D, M⟩
    have hml := lay_len M
    refine ⟨_, .tail (.tail (.tail (.tail (.tail .head)))), ?_⟩
    walk_at "turn"
    replace hr := hr.mono k
    replace hl := hl.mono k
    replace hC := hC.mono k
    clear k
    walk_at "go"
    refine l_len S (hC.mono S.base) (by (first | lia | omega)) ?_; clear S; intro t s S
    walk_at "go"
    refine i_dec (fun hp => ?_) (fun hp => ?_)
    · walk_at "go"
      refine number_spec (S.gr G) (R.in_ (by decide)) (hl.mono S.base) hn (by (first | lia | omega)) ?_
      intro n t s' hn0 hk; replace S := CS.keeps S hk; clear hk
      walk_at "go"
      refine l_len S (hC.mono S.base) (by (first | lia | omega)) ?_; clear S; intro t s S
      walk_at "go"
      have e1 := Int.emod_nonneg (n / 5) (Int.ne_of_gt hp)
      have e2 := Int.emod_lt_of_pos (n / 5) hp
      refine l_at (hC.mono S.base) e1 e2 (by (first | lia | omega)) (by rfl) ?_
      intro t
      have hcm : (cellsL rows wd).getD (n / 5 % (cellsL rows wd).length).toNat 0 ∈ cellsL rows wd := getD_mem (by (first | lia | omega))
      generalize (cellsL rows wd).getD (n / 5 % (cellsL rows wd).length).toNat 0 = cell at hcm S ⊢
      have hcb : hasB rows wd cell = true := by rw [← cells_mem]; exact decide_eq_true hcm
      walk_at "go"
      refine' x_lc [(Str.ofString "_law_over_here", some (.ref d))] (onI (fun c => (mget m c).isNone)) (FII id) ?z_sw S ?z_ok ?z_hy ?z_ek ?z_sel ?_ ?z_hs
      case z_sw => rfl
      case z_ok => kernel_rfl
      case z_hy => kernel_rfl
      case z_ek => rfl
      case z_sel => exact Sel.cons (by walk_at "lk") Sel.nil
      case z_hs => intro _; rfl
      walk_at "go"
      refine lbeside_spec (S.gr G) (R.in_ (by decide)) (hr.mono S.base) g hcb ?_
      intro lb yb kb s' hD hD' hi hk
      have hno : ¬ CS.own _ [(d, od)] lb := fun q => by obtain ⟨o, e⟩ := S.own_at q; rw [hD] at e; cases e
      replace S := CS.keeps S hk; clear hk
      have hyb : yb.size = (besideL rows wd cell).length := by rw [← hi.length, Array.length_toList]
      have hb4 := beside_len rows wd cell
      refine it_listN S R.handled hD' hno ?_
      intro it s I
      refine comp_it I (by (first | lia | omega)) ?_ ?_ ?_
      · intro C i v s E' hlt hv S
        refine jY2 (hi.at i v (by simpa using hv)) ?_
        rintro c tc rfl hc
        refine tests1 ?_
        walk_at "go"
        refine d_notin S (S.atLed (List.mem_cons_self ..)) D hds ?_; clear S; intro s S
        walk_at "go"
        refine ⟨?_, S.quiet⟩
        show _ = (mget m c).isNone
        cases mget m c <;> rfl
      · intro C i v s E' hlt hv hp S
        refine jY2 (hi.at i v (by simpa using hv)) ?_
        rintro c tc rfl hc
        walk_at "go"
        exact ⟨⟨_, _, _, rfl, rfl⟩, S.quiet⟩
      · intro ln kn yn vs p1 p2 p3 hDn
        refine ⟨_, by walk_at "pt", fun s S => ?_⟩
        have hv := vs_list p1 p2
        subst hv
        have hyn := pairII (filtI hi) p3
        rw [List.map_id] at hyn
        have hnl : ((besideL rows wd cell).filter fun c => (mget m c).isNone).length ≤ 4 := Nat.le_trans (List.length_filter_le ..) hb4
        have hNl : IntL s.heap ln _ := IntL.of (S.atLed (List.mem_cons_self ..)) hyn
        walk_at "go"
        refine d_notin S (S.atLed (by walk_at "mm")) D hds ?_; clear S hNl; intro s S
        walk_at "go"
        refine i_bool (fun q1 => ?_) (fun q1 => ?_)
        · walk_at "go"
          exact hNx _ _ _ _ (Sub.refl _) (S.tl rfl) (jI6 _ _ _ _ _ _ rfl rfl ⟨D, M⟩)
        · walk_at "go"
          refine l_len S (IntL.of (S.atLed (List.mem_cons_self ..)) hyn) (by (first | lia | omega)) ?_; clear S; intro t s S
          walk_at "go"
          refine i_dec (fun q2 => ?_) (fun q2 => ?_)
          · walk_at "go"
            refine number_spec (S.gr G) (R.in_ (by decide)) (hl.mono S.base) hn (by (first | lia | omega)) ?_
            intro n t s' hn0 hk; replace S := CS.keeps S hk; clear hk
            walk_at "go"
            refine l_len S (IntL.of (S.atLed (List.mem_cons_self ..)) hyn) (by (first | lia | omega)) ?_; clear S; intro t s S
            walk_at "go"
            have f1 := Int.emod_nonneg (n / 3) (Int.ne_of_gt q2)
            have f2 := Int.emod_lt_of_pos (n / 3) q2
            refine l_at (IntL.of (S.atLed (List.mem_cons_self ..)) hyn) f1 f2 (by (first | lia | omega)) (by rfl) ?_
            intro t
            have hom := getD_mem (d := 0) (show (n / 3 % (((besideL rows wd cell).filter fun c => (mget m c).isNone).length : Int)).toNat < ((besideL rows wd cell).filter fun c => (mget m c).isNone).length by (first | lia | omega))
            generalize ((besideL rows wd cell).filter fun c => (mget m c).isNone).getD (n / 3 % (((besideL rows wd cell).filter fun c => (mget m c).isNone).length : Int)).toNat 0 = other at hom S ⊢
            obtain ⟨o1, o2⟩ := List.mem_filter.mp hom
            have hmay := mem_beside.mp o1
            have ho : mget m other = none := by simpa using o2
            have hc : mget m cell = none := by
              cases e : mget m cell with
              | none => rfl
              | some v => rw [e] at q1; cases q1
            have z1 := mput_len m cell other
            walk_at "go"
            refine d_set (a := other) S (by walk_at "cf") D ⟨_, rfl⟩ (by (first | lia | omega)) ?_; clear S; intro od1 s D1 S
            walk_at "go"
            refine d_set (a := cell) S (by walk_at "cf") D1 ⟨_, rfl⟩ (by (first | lia | omega)) ?_; clear S; intro od2 s D2 S
            walk_at "go"
            exact hNx _ _ _ _ (Sub.refl _) (S.tl rfl) (jI6 _ _ _ _ _ _ rfl rfl ⟨D2, M.put gg hmay hc ho⟩)
          · walk_at "go"
            exact hNx _ _ _ _ (Sub.refl _) (S.tl rfl) (jI6 _ _ _ _ _ _ rfl rfl ⟨D, M⟩)
    · walk_at "go"
      exact hNx _ _ _ _ (Sub.refl _) S (jI6 _ _ _ _ _ _ rfl rfl ⟨D, M⟩)
  clear I
  rintro ρ' Λ' s hJx
  refine jE6 hJx ?_
  clear hJx
  rintro a b c e od m rfl rfl ⟨D, M⟩ S
  walk_at "go"
  exact h d od m s (k₁.none ((S.led (d, od) (List.mem_cons_self ..)).2.2.2 rfl)) (S.atLed (List.mem_cons_self ..)) hds D M (S.outs k₁)


theorem made_spec {w : World} {A : Around} {s : Shared} {Q E : Value → Shared → Prop} {fl l d : Addr} {od : Obj} {m : Mp Int} {rows : List Str} {wd : Nat} {t1 t2 : Tok} (G : Gr (Fl.kH w.params) s.heap) (R : Room A 6) (F : FloorAt 189 s.heap fl l rows wd t1 t2) (hod : s.heap.get? d = some od) (D : DG PP w RInt od m) (hds : (d == sysModules) = false) (M : LayM (mayB rows wd) m)
    (h : ∀ ly' dx o2 d' od' m' s', LayP s'.heap ly' dx o2 fl d' → s.heap.get? ly' = none → s.heap.get? dx = none → ly' ≠ d' → dx ≠ d' → DG PP w RInt od' m' → LayM (mayB rows wd) m' → (∀ x, mget m' x = mget m x) → s.heap.get? d' = none → s'.heap.get? d' = some od' → (d' == sysModules) = false → Keeps s s' → Q (.ref ly') s') : wpAny (model PP w) A (call (.ref 302) [.ref fl, .ref d]) Q E s := by
  refine' callP [(Str.ofString "_law_floor", some (.ref fl)), (Str.ofString "_law_over_here", some (.ref d)), (Str.ofString "_law_laying", none), (Str.ofString "_law_cell", none)] G (by walk_at "room") ?z_ho ?z_hcd ?z_hbind ?z_hd ?z_hb1 ?z_hb2 ?z_hρ ?_
  walk_at "enter"
  intro L s S
  have g := gph F.grid
  have hml := lay_len M
  have hcl := cells_len rows wd
  have hlw := (len_wd F.grid).1
  walk_at "go"
  refine laying_spec (S.gr G) (R.in_ (by decide)) ?_
  intro ly' dx o2 d' od0 s' P n1 n2 ne1 ne2 Dn hd' hd'' hds' hk
  obtain ⟨h₁, k₁, S', hall⟩ := S.adoptW hk hd' hd''
  have n1' := S.base.none n1
  have n2' := S.base.none n2
  have n3' := S.base.none hd'
  replace S := S'
  clear S'
  have P₁ : LayP h₁ ly' dx o2 fl d' := ⟨hall _ _ n1 ne1 P.a1, hall _ _ n2 ne2 P.a2, P.lk⟩
  clear P hall hk
  replace G := G.mono k₁
  replace F := F.mono k₁
  have hod₁ := k₁ _ _ hod
  have Y := P₁.obj
  walk_at "go"
  refine d_sorted S R.handled (S.atBase hod₁) D hds (by (first | lia | omega)) ?_; clear S; intro ls out e ks s hout hperm _ S _
  refine jX3 (S.freeze) ?_
  clear S
  intro h₂ k₂ hls S
  replace G := G.mono k₂
  replace F := F.mono k₂
  replace Y := ObjAt.mono Y k₂
  replace P₁ := P₁.mono k₂
  have hod₂ := k₂ _ _ hod₁
  have B := k₁.trans k₂
  have hnd : ks.Nodup := hperm.nodup_iff.mpr M.nd
  have hkl : ks.length = m.length := by rw [hperm.length_eq, List.length_map]
  have hol : out.size = ks.length := by rw [← hout.length, Array.length_toList]
  refine it_list S R.handled hls rfl ⟨_, rfl⟩ ?_
  clear S
  intro it s I
  refine loop_it (fun i ρ Λ => ∃ a od1 m1, ρ = [(Str.ofString "_law_floor", some (.ref fl)), (Str.ofString "_law_over_here", some (.ref d)), (Str.ofString "_law_laying", some (.ref ly')), (Str.ofString "_law_cell", a)] ∧ Λ = [(d', od1)] ∧ DG PP w RInt od1 m1 ∧ Mad (mayB rows wd) m ks i m1) I (jI3 _ _ _ rfl rfl ⟨Dn _ _, Mad.start⟩) ?_ ?_ ?_
  · intro i ρ' Λ' hJx; exact jE3 hJx fun _ _ _ _ e _ => by rw [e]; rfl
  · rintro i v ρ₁ Λ₁ hi1 hv hJx
    refine jE3 hJx ?_
    clear hJx
    rintro a od1 m1 rfl rfl ⟨D1, M1⟩
    refine jY2 (hout.at i v (by simpa using hv)) ?_
    rintro c tc rfl hc
    obtain ⟨x, hx⟩ : ∃ x, mget m c = some x := by
      have := hperm.mem_iff.mp (List.mem_of_getElem? hc)
      cases e : mget m c with
      | some v => exact ⟨v, rfl⟩
      | none => exact absurd this (mget_none_iff.mp e)
    have hl1 := lay_len M1.lay
    refine ⟨_, .tail (.tail (.tail .head)), ?_⟩
    walk_at "turn"
    replace F := F.mono k
    replace Y := ObjAt.mono Y k
    have hod₃ := k _ _ hod₂
    clear k
    walk_at "go"
    refine d_at S (S.atBase hod₃) D hx (by rfl) ?_; clear S; intro vx s hvx S
    refine jY1 hvx ?_
    rintro tx rfl
    walk_at "go"
    refine i_dec (fun hlt => ?_) (fun hlt => ?_)
    · obtain ⟨q1, q2, q3, M2⟩ := M1.put g M hnd hc hx hlt
      walk_at "go"
      refine d_at S (S.atBase hod₃) D hx (by rfl) ?_; clear S; intro vx s hvx S
      refine jY1 hvx ?_
      rintro tx2 rfl
      walk_at "go"
      refine put_spec S.base ((S.led (d', od1) (List.mem_cons_self ..)).2.2.2 rfl) G (R.in_ (by decide)) F Y (S.atLed (List.mem_cons_self ..)) D1 hds' q1 q2 q3 (by (first | lia | omega)) ?_
      intro od2 s' D2 up
      replace S := S.upd (by walk_at "cf") up
      walk_at "go"
      exact hNx _ _ _ _ (Sub.refl _) S (jI3 _ _ _ rfl rfl ⟨D2, M2⟩)
    · walk_at "go"
      exact hNx _ _ _ _ (Sub.refl _) S (jI3 _ _ _ rfl rfl ⟨D1, M1.skip hc hx hlt⟩)
  clear I
  rintro ρ' Λ' s hJx
  refine jE3 hJx ?_
  clear hJx
  rintro a od1 m1 rfl rfl ⟨D1, M1⟩ S
  rw [hol] at M1
  walk_at "go"
  exact h ly' dx o2 d' od1 m1 s (P₁.mono S.base) n1' n2' ne1 ne2 D1 M1.lay (M1.all g M hperm) n3' (S.atLed (List.mem_cons_self ..)) hds' (S.outs B)


theorem lies_spec {w : World} {A : Around} {s : Shared} {Q E : Value → Shared → Prop} {lr d : Addr} {od : Obj} {m : Mp Int} {rows : List Str} {wd : Nat} (G : Gr (Fl.kH w.params) s.heap) (R : Room A 3) (hr : StrL s.heap lr rows) (g : Grid rows wd)
    (hod : s.heap.get? d = some od) (D : DG PP w RInt od m) (hds : (d == sysModules) = false) (M : LayM (mayB rows wd) m)
    (h : ∀ s', Keeps s s' → Q (.bool true) s') : wpAny (model PP w) A (call (.ref 316) [.ref lr, .ref d]) Q E s := by
  refine' callP [(Str.ofString "_law_rows_here", some (.ref lr)), (Str.ofString "_law_over_here", some (.ref d)), (Str.ofString "_law_cell", none)] G (by walk_at "room") ?z_ho ?z_hcd ?z_hbind ?z_hd ?z_hb1 ?z_hb2 ?z_hρ ?_
  walk_at "enter"
  intro L s S
  walk_at "go"
  refine y_dict (S.atBase hod) D ?_
  walk_at "go"
  refine it_dict S R.handled hod D hds ?_
  clear S
  intro it s It
  have hkey : ∀ c, c ∈ m.map (·.1) → ∃ x, mget m c = some x := fun c hc => by
    cases q : mget m c with
    | none => exact absurd hc (mget_none_iff.mp q)
    | some x => exact ⟨x, rfl⟩
  refine loop_it (fun i ρ Λ => (∃ a, ρ = [(Str.ofString "_law_rows_here", some (.ref lr)), (Str.ofString "_law_over_here", some (.ref d)), (Str.ofString "_law_cell", a)]) ∧ Λ = []) It (jH1 _ rfl rfl) ?_ ?_ ?_
  · rintro i ρ' Λ' ⟨_, rfl⟩; rfl
  · rintro i v ρ₁ Λ₁ hi1 ⟨c, tc, hcg, rfl⟩ hJx
    refine jF1 hJx ?_
    clear hJx
    rintro a rfl rfl
    refine ⟨_, .tail (.tail .head), ?_⟩
    obtain ⟨x, hx⟩ := hkey c (List.mem_of_getElem? hcg)
    obtain ⟨hy, hm⟩ := M.inv c x hx
    walk_at "turn"
    replace hr := hr.mono k
    replace hod := k _ _ hod
    clear k
    walk_at "go"
    refine whole_spec (S.gr G) (R.in_ (by decide)) ?_
    walk_at "kp"
    walk_at "go"
    refine d_at S (S.atBase hod) D hx (by rfl) ?_; clear S; intro vx s hvx S
    refine jY1 hvx ?_
    rintro ta rfl
    walk_at "go"
    refine whole_spec (S.gr G) (R.in_ (by decide)) ?_
    walk_at "kp"
    walk_at "go"
    refine d_at S (S.atBase hod) D hx (by rfl) ?_; clear S; intro vx s hvx S
    refine jY1 hvx ?_
    rintro ta rfl
    walk_at "go"
    refine lmay_spec (S.gr G) (R.in_ (by decide)) (hr.mono S.base) g ?_
    walk_at "kp"
    rw [← may_eq g, hm]
    walk_at "go"
    refine m_dict (S.atBase hod) D PySem.F.slot_dict_get PySem.F.type_dict_get ?_
    walk_at "go"
    refine d_at S (S.atBase hod) D hx (by rfl) ?_; clear S; intro vx s hvx S
    refine jY1 hvx ?_
    rintro ta rfl
    walk_at "go"
    refine d_get S (S.atBase hod) D hds hy ?_; clear S; intro vx s hvx S
    refine jY1 hvx ?_
    rintro ta rfl
    walk_at "go"
    refine i_ne (fun q => absurd rfl q) (fun _ => ?_)
    walk_at "go"
    exact hNx _ _ _ _ (Sub.refl _) S (jH1 _ rfl rfl)
  clear It
  rintro ρ' Λ' s hJx
  refine jF1 hJx ?_
  clear hJx
  rintro a rfl rfl S
  walk_at "go"
  exact h _ S.out

theorem gf_Covered (w : World) : GF (Fl.kH w.params) (Str.ofString "Covered") 111 := ⟨by kernel_rfl, by kernel_rfl, by kernel_rfl⟩
theorem ek_Covered (w : World) : ExcK (Fl.kH w.params) 111 := ⟨by kernel_rfl, by kernel_rfl, by kernel_rfl, by kernel_rfl, by kernel_rfl, by kernel_rfl, by kernel_rfl, by kernel_rfl, by kernel_rfl⟩
theorem mk_Covered (w : World) : MatchK (Fl.kH w.params) 111 111 true := ⟨by kernel_rfl, by kernel_rfl, by kernel_rfl, by kernel_rfl⟩
theorem put_out {w : World} {A : Around} {s : Shared} {Q E : Value → Shared → Prop} {ly fl l d : Addr} {od : Obj} {m : Mp Int} {rows : List Str} {wd : Nat} {t1 t2 ta tb : Tok} {a b : Int} {B : Heap} {outer : List Env} (G : Gr (Fl.kH w.params) s.heap) (R : Room A 4) (F : FloorAt 189 s.heap fl l rows wd t1 t2) (Y : LayO s.heap ly fl d)
    (hod : s.heap.get? d = some od) (D : DG PP w RInt od m) (hds : (d == sysModules) = false) (hm : mayB rows wd a b = true) (ha : (mget m a).isSome = true)
    (k : Stk A B outer s.heap) (hE : ∀ e s', Fly B outer e 111 s s' → E (.ref e) s') : wpAny (model PP w) A (call (.ref 221) [.ref ly, .int a ta, .int b tb]) Q E s := by
  refine' callP [(Str.ofString "self", some (.ref ly)), (Str.ofString "one", some (.int a ta)), (Str.ofString "other", some (.int b tb))] G (by walk_at "room") ?z_ho ?z_hcd ?z_hbind ?z_hd ?z_hb1 ?z_hb2 ?z_hρ ?_
  walk_at "enter"
  intro L s S
  have hh := mayB_has hm
  walk_at "go"
  refine need_spec (S.gr G) (R.in_ (by decide)) (F.mono S.base) (ObjAt.mono Y S.base) hh.1 ?_
  walk_at "kp"
  walk_at "go"
  refine need_spec (S.gr G) (R.in_ (by decide)) (F.mono S.base) (ObjAt.mono Y S.base) hh.2 ?_
  walk_at "kp"
  walk_at "go"
  refine may_spec (S.gr G) (R.in_ (by decide)) (F.mono S.base) ?_
  walk_at "kp"
  (first | with_reducible refine jBt hm ?_ | with_reducible refine jBf hm ?_ | with_reducible refine jBn hm ?_ | with_reducible refine jBm hm ?_ | rw [hm])
  walk_at "go"
  refine d_in S (S.atBase hod) D hds ?_; clear S; intro s S
  (first | with_reducible refine jBt ha ?_ | with_reducible refine jBf ha ?_ | with_reducible refine jBn ha ?_ | with_reducible refine jBm ha ?_ | rw [ha])
  walk_at "go"
  refine x_raise S G (gf_Covered w) (ek_Covered w) R.handled rfl rfl ?_; clear S; intro h' e args s S hx
  exact out_first k S k.stays rfl (Heap.UpToSlots.of_keeps S.base) hx (hE _)

theorem covered_spec {w : World} {A : Around} {s : Shared} {Q E : Value → Shared → Prop} {ly fl l d ls : Addr} {od : Obj} {m : Mp Int} {rows : List Str} {wd : Nat} {t1 t2 ta tb : Tok} {a b : Int} {B : Heap} {Λ₀ : List (Addr × Obj)} {outer : List Env} (G : Gr (Fl.kH w.params) B) (R : Room A 6) (F : FloorAt 189 B fl l rows wd t1 t2) (Y : LayO B ly fl d)
    (hod : s.heap.get? d = some od) (D : DG PP w RInt od m) (hds : (d == sysModules) = false) (hls : B.get? ls = some (tup #[.int a ta, .int b tb])) (hm : mayB rows wd a b = true) (ha : (mget m a).isSome = true)
    (c : Cov B Λ₀ s.heap) (k : Stk A B outer s.heap) (h : ∀ s', Land B s s' → Q (.bool true) s') : wpAny (model PP w) A (call (.ref 328) [.ref ly, .ref ls]) Q E s := by
  refine' callK (h₀ := B) (Λ := Λ₀) [(Str.ofString "_law_laying", some (.ref ly)), (Str.ofString "_law_slab", some (.ref ls))] (G.mono c.sub) (by walk_at "room") ?z_ho ?z_hcd ?z_hbind ?z_hd ?z_hb1 ?z_hb2 ?z_hρ c.sub c.led c.nd ?_
  walk_at "enter"
  intro L s S
  have hdi := c.all _ _ hod
  refine x_try ?_
  walk_at "go"
  refine u_at (S.atBase hls) (.inl ⟨rfl, rfl⟩) (by rfl) ?_
  walk_at "go"
  refine u_at (S.atBase hls) (.inr ⟨rfl, rfl⟩) (by rfl) ?_
  walk_at "go"
  have hod' : s.heap.get? d = some od := by
    rcases hdi with q | q
    · exact S.atBase q
    · exact S.atLed q
  have ks := (k.go (c.land (Slk.refl _) (fun _ q => q) S (Sub.refl _)).up S.base).deeper S (Sub.refl _) rfl
  refine put_out (S.gr G) (R.in_ (by decide)) (F.mono S.base) (ObjAt.mono Y S.base) hod' D hds hm ha ks ?_
  intro e s' fly
  refine caught ks.frames S c.nf rfl fly ?_
  clear S ks
  intro Λ₁ s x₁ S f
  refine h_hitN S (x₁.nf c.nf) G (gf_Covered w) (mk_Covered w) f rfl rfl ?_
  clear S f
  intro Λ₂ s E'' x₂ S
  walk_at "go"
  exact h _ (c.land (x₁.trans x₂) (fun _ q => q) S (Sub.refl _))


theorem put_again_spec {w : World} {A : Around} {s : Shared} {Q E : Value → Shared → Prop} {ly fl l d ls : Addr} {od : Obj} {m : Mp Int} {rows : List Str} {wd : Nat} {t1 t2 ta tb : Tok} {a b : Int} {B : Heap} {Λ₀ : List (Addr × Obj)} {outer : List Env} (Gw : Gr (Fl.kH w.params) (without B (· = d))) (R : Room A 10) (Fw : FloorAt 189 (without B (· = d)) fl l rows wd t1 t2) (Yw : LayO (without B (· = d)) ly fl d)
    (hod : B.get? d = some od) (D : DG PP w RInt od m) (hds : (d == sysModules) = false) (M : LayM (mayB rows wd) m) (hlw : (without B (· = d)).get? ls = some (tup #[.int a ta, .int b tb])) (hab : mget m a = some b) (hlen : m.length ≤ 200)
    (c : Cov B Λ₀ s.heap) (k : Stk A B outer s.heap) (h : ∀ od' m' s', DG PP w RInt od' m' → LayM (mayB rows wd) m' → (∀ x, mget m' x = mget m x) → LandD (without B (· = d)) d od' s s' → Q (.bool true) s') : wpAny (model PP w) A (call (.ref 335) [.ref ly, .ref ls]) Q E s := by
  have kW : Sub (without B (· = d)) B := without_sub _ _
  refine' callK (h₀ := B) (Λ := Λ₀) [(Str.ofString "_law_laying", some (.ref ly)), (Str.ofString "_law_slab", some (.ref ls))] ((Gw.mono kW).mono c.sub) (by walk_at "room") ?z_ho ?z_hcd ?z_hbind ?z_hd ?z_hb1 ?z_hb2 ?z_hρ c.sub c.led c.nd ?_
  walk_at "enter"
  intro L s S
  have gg := gph Fw.grid
  obtain ⟨hba, hmab⟩ := M.inv a b hab
  have hmba : mayB rows wd b a = true := by rw [gg.symm]; exact hmab
  have hne : a ≠ b := gg.ne hmab
  have G := Gw.mono kW
  have F := Fw.mono kW
  have Y := ObjAt.mono Yw kW
  walk_at "go"
  obtain ⟨B₂, Λ₂, kB, S', c₂⟩ := S.cov c.nf
  clear S
  have ks := (Stk.wider k c S' (fun p hp => List.mem_map_of_mem hp) c.nf).deeper S' (Sub.refl _) rfl
  refine covered_spec (G.mono kB) (R.in_ (by decide)) (F.mono kB) (ObjAt.mono Y kB) (S'.atBase (kB _ _ hod)) D hds (kB _ _ (kW _ _ hlw)) hmab (by rw [hab]; rfl) c₂ ks ?_
  intro s' ld
  obtain ⟨Λ₃, x₃, S⟩ := S'.land c.nf ld
  clear S' ks ld c₂ G F Y
  replace S := S.thaw (kB _ _ hod)
  have kW₂ : Sub (without B (· = d)) (without B₂ (· = d)) := without_mono kB
  have G := Gw.mono kW₂
  have F := Fw.mono kW₂
  have Y := ObjAt.mono Yw kW₂
  walk_at "go"
  refine u_at (S.atBase (kW₂ _ _ hlw)) (.inr ⟨rfl, rfl⟩) (by rfl) ?_
  walk_at "go"
  refine lift_spec S.base (without_none rfl) G (R.in_ (by decide)) F Y (S.atLed (List.mem_cons_self ..)) D hds M hba (by (first | lia | omega)) ?_
  intro od1 s' D1 U
  replace S := S.upd .head U
  clear U
  have M1 := M.lift hba
  have l1 := mdel_len m b
  have l2 := mdel_len (mdel m b) a
  walk_at "go"
  refine u_at (S.atBase (kW₂ _ _ hlw)) (.inr ⟨rfl, rfl⟩) (by rfl) ?_
  walk_at "go"
  refine u_at (S.atBase (kW₂ _ _ hlw)) (.inl ⟨rfl, rfl⟩) (by rfl) ?_
  walk_at "go"
  have n1 : mget (mdel (mdel m b) a) b = none := by rw [mget_mdel, mget_mdel, if_neg (Ne.symm hne), if_pos rfl]
  have n2 : mget (mdel (mdel m b) a) a = none := by rw [mget_mdel, if_pos rfl]
  refine put_spec S.base (without_none rfl) G (R.in_ (by decide)) F Y (S.atLed (List.mem_cons_self ..)) D1 hds hmba n1 n2 (by (first | lia | omega)) ?_
  intro od2 s' D2 U
  replace S := S.upd .head U
  clear U
  have M2 := M1.put gg hmba n1 n2
  have ext : ∀ x, mget (mput (mput (mdel (mdel m b) a) b a) a b) x = mget m x := fun x => by
    rw [mget_mput, mget_mput, mget_mdel, mget_mdel]
    by_cases e1 : x = a
    · rw [if_pos e1, e1, hab]
    · rw [if_neg e1]
      by_cases e2 : x = b
      · rw [if_pos e2, e2, hba]
      · rw [if_neg e2, if_neg e1, if_neg e2]
  obtain ⟨B₃, k₃, hod₃, S'⟩ := S.freeze
  replace S := S'
  clear S' G F Y
  have kW₃ := kW₂.trans k₃
  have G := Gw.mono kW₃
  have F := Fw.mono kW₃
  have Y := ObjAt.mono Yw kW₃
  walk_at "go"
  obtain ⟨B₄, Λ₄, k₄, S', c₄⟩ := S.cov (x₃.nf c.nf)
  clear S
  have ks := (Stk.wider k c S' (fun p hp => by rw [x₃.adr]; exact List.mem_map_of_mem hp) (x₃.nf c.nf)).deeper S' (Sub.refl _) rfl
  refine covered_spec (G.mono k₄) (R.in_ (by decide)) (F.mono k₄) (ObjAt.mono Y k₄) (S'.atBase (k₄ _ _ hod₃)) D2 hds (k₄ _ _ (kW₃ _ _ hlw)) hmab (by rw [ext, hab]; rfl) c₄ ks ?_
  intro s' ld
  obtain ⟨Λ₅, x₅, S⟩ := S'.land (x₃.nf c.nf) ld
  clear S' ks ld c₄
  walk_at "go"
  exact h od2 _ _ D2 M2 ext (LandD.of c (x₃.trans x₅) S (kW₃.trans k₄) (k₄ _ _ hod₃))


theorem bare_taken_spec {w : World} {A : Around} {s : Shared} {Q E : Value → Shared → Prop} {ly fl l d lr : Addr} {od : Obj} {m : Mp Int} {rows : List Str} {wd : Nat} {t1 t2 tc : Tok} {c : Int} {B : Heap} (hB : Sub B s.heap) (hd0 : B.get? d = none) (G : Gr (Fl.kH w.params) B) (R : Room A 8) (hr : StrL B lr rows) (F : FloorAt 189 B fl l rows wd t1 t2) (Y : LayO B ly fl d)
    (hod : s.heap.get? d = some od) (D : DG PP w RInt od m) (hds : (d == sysModules) = false) (M : LayM (mayB rows wd) m) (hc : c ∈ cellsL rows wd) (hcn : mget m c = none)
    (h : ∀ od' m' s', Upd d od' s s' → DG PP w RInt od' m' → LayM (mayB rows wd) m' → (∀ x, mget m' x = mget m x) → Q (.bool true) s') : wpAny (model PP w) A (call (.ref 342) [.ref lr, .ref ly, .int c tc]) Q E s := by
  obtain ⟨W, w1, w2, w3⟩ := but_one s d
  have kB : Sub B W := fun x o e => w3 x o (fun q => by rw [q, hd0] at e; cases e) (hB x o e)
  refine' callK (h₀ := W) (Λ := [(d, od)]) [(Str.ofString "_law_rows_here", some (.ref lr)), (Str.ofString "_law_laying", some (.ref ly)), (Str.ofString "_law_cell", some (.int c tc)), (Str.ofString "_law_near", none), (Str.ofString "_law_other", none), (Str.ofString "_law_mates", none), (Str.ofString "_law_mate", none), (Str.ofString "_law_good", none)] (G.mono hB) (by walk_at "room") ?z_ho ?z_hcd ?z_hbind ?z_hd ?z_hb1 ?z_hb2 ?z_hρ w1 (fun p hp => ?z_led) (by simp) ?_
  case z_led => rw [List.mem_singleton.mp hp]; exact ⟨hod, w2⟩
  walk_at "enter"
  intro L s S
  replace G := G.mono kB
  replace F := F.mono kB
  replace Y := ObjAt.mono Y kB
  replace hr := hr.mono kB
  have g := F.grid
  have gg := gph g
  have hcl := cells_len rows wd
  have hlw := (len_wd g).1
  have hl1 := lay_len M
  have hcb : hasB rows wd c = true := by rw [← cells_mem]; exact decide_eq_true hc
  have hb4 := beside_len rows wd c
  walk_at "go"
  refine lbeside_spec (S.gr G) (R.in_ (by decide)) (hr.mono S.base) g hcb ?_
  intro lb yb kb s' hD hD' hi hk
  walk_at "gnew"
  have kW := k
  replace hr := hr.mono k
  replace F := F.mono k
  replace Y := ObjAt.mono Y k
  have hLb : IntL h₁ lb (besideL rows wd c) := IntL.of (hN _ _ hD hD') hi
  clear hk hN k hD hD' hi
  walk_at "go"
  refine l_len S (hLb.mono S.base) (by (first | lia | omega)) ?_; clear S; intro t s S
  walk_at "go"
  refine i_eq (fun q => ?_) (fun q => ?_)
  · walk_at "go"
    exact h od m s ⟨S.same, fun x o hx e => S.base _ _ (kW _ _ (w3 x o hx e)), S.atLed (List.mem_cons_self ..)⟩ D M (fun _ => rfl)
  walk_at "go"
  refine l_at (hLb.mono S.base) (by (first | lia | omega)) (by (first | lia | omega)) (by (first | lia | omega)) (by rfl) ?_
  intro t
  have hom : (besideL rows wd c).getD (0 : Int).toNat 0 ∈ besideL rows wd c := getD_mem (by rw [Int.toNat_zero]; (first | lia | omega))
  generalize (besideL rows wd c).getD (0 : Int).toNat 0 = o at hom S ⊢
  walk_at "go"
  have hmo : mayB rows wd c o = true := mem_beside.mp hom
  have hmo' : mayB rows wd o c = true := by rw [gg.symm]; exact hmo
  have hne : c ≠ o := gg.ne hmo
  rename Tok => to
  refine d_in S (S.atLed (List.mem_cons_self ..)) D hds ?_; clear S; intro s S
  cases ho : mget m o with
  | none =>
    (first | with_reducible refine jNt ?_ | with_reducible refine jNn ?_ | rw [Option.isSome_none])
    walk_at "go"
    refine l_new S (by simp) ?_; clear S; intro lm s S _
    walk_at "go"
    refine jX3 (S.freeze) ?_
    clear S
    intro h₂ k₂ hlm S
    replace G := G.mono k₂
    replace F := F.mono k₂
    replace Y := ObjAt.mono Y k₂
    replace kW := kW.trans k₂
    clear k₂
    refine it_list S R.handled hlm rfl ⟨_, rfl⟩ ?_
    clear S
    intro it s It
    refine loop_it (fun i ρ Λ => ρ = [(Str.ofString "_law_rows_here", some (.ref lr)), (Str.ofString "_law_laying", some (.ref ly)), (Str.ofString "_law_cell", some (.int c tc)), (Str.ofString "_law_near", some (.ref lb)), (Str.ofString "_law_other", some (.int o to)), (Str.ofString "_law_mates", some (.ref lm)), (Str.ofString "_law_mate", none), (Str.ofString "_law_good", none)] ∧ Λ = [(d, od)]) It ⟨rfl, rfl⟩ ?_ ?_ ?_
    · rintro i ρ' Λ' ⟨_, rfl⟩; rfl
    · rintro i v ρ₁ Λ₁ hi1; simp at hi1
    clear It
    rintro ρ' Λ' s ⟨rfl, rfl⟩ S
    walk_at "go"
    refine put_spec S.base ((S.led (d, od) (by walk_at "mm")).2.2.2 rfl) G (R.in_ (by decide)) F Y (S.atLed (by walk_at "mm")) D hds hmo' ho hcn (by (first | lia | omega)) ?_
    intro od1 s' D1 up
    replace S := S.upd .head up
    clear up
    have M1 := M.put gg hmo' ho hcn
    have g1 : mget (mput (mput m o c) c o) c = some o := by rw [mget_mput, if_pos rfl]
    walk_at "go"
    refine d_in S (S.atLed (List.mem_cons_self ..)) D1 hds ?_; clear S; intro s S
    rw [g1, Option.isSome_some]
    walk_at "go"
    refine d_at S (S.atLed (List.mem_cons_self ..)) D1 g1 (by rfl) ?_; clear S; intro vx s hvx S
    refine jY1 hvx ?_
    rintro tx rfl
    walk_at "go"
    rw [beq_self_eq_true]
    walk_at "go"
    refine bare_spec (S.gr G) (R.in_ (by decide)) (F.mono S.base) (ObjAt.mono Y S.base) (S.atLed (List.mem_cons_self ..)) D1 hds ?_
    intro lB yB kB' s' hD hD' hiB hk
    replace S := S.keeps hk
    have hcB : c ∉ bareL (mput (mput m o c) c o) (cellsL rows wd) := fun q => by
      have := (List.mem_filter.mp q).2
      rw [g1] at this; cases this
    walk_at "go"
    refine l_notin (IntL.of hD' hiB) ?_
    rw [decide_eq_false hcB]
    clear hk hD hD' hiB
    walk_at "go"
    have l1 := mput_len m o c
    have l2 := mput_len (mput m o c) c o
    refine lift_spec S.base ((S.led (d, od1) (by walk_at "mm")).2.2.2 rfl) G (R.in_ (by decide)) F Y (S.atLed (by walk_at "mm")) D1 hds M1 g1 (by (first | lia | omega)) ?_
    intro od2 s' D2 up
    replace S := S.upd .head up
    clear up
    have M2 := M1.lift g1
    walk_at "go"
    refine it_list S R.handled hlm rfl ⟨_, rfl⟩ ?_
    clear S
    intro it s It
    refine loop_it (fun i ρ Λ => ρ = [(Str.ofString "_law_rows_here", some (.ref lr)), (Str.ofString "_law_laying", some (.ref ly)), (Str.ofString "_law_cell", some (.int c tc)), (Str.ofString "_law_near", some (.ref lb)), (Str.ofString "_law_other", some (.int o to)), (Str.ofString "_law_mates", some (.ref lm)), (Str.ofString "_law_mate", none), (Str.ofString "_law_good", some (.bool true))] ∧ Λ = [(d, od2)]) It ⟨rfl, rfl⟩ ?_ ?_ ?_
    · rintro i ρ' Λ' ⟨_, rfl⟩; rfl
    · rintro i v ρ₁ Λ₁ hi1; simp at hi1
    clear It
    rintro ρ' Λ' s ⟨rfl, rfl⟩ S
    walk_at "go"
    refine h od2 _ s ⟨S.same, fun x o hx e => S.base _ _ (kW _ _ (w3 x o hx e)), S.atLed (List.mem_cons_self ..)⟩ D2 M2 fun x => ?_
    rw [mget_mdel, mget_mdel, mget_mput, mget_mput]
    by_cases e1 : x = o
    · rw [if_pos e1, e1, ho]
    · rw [if_neg e1]
      by_cases e2 : x = c
      · rw [if_pos e2, e2, hcn]
      · rw [if_neg e2, if_neg e2, if_neg e1]
  | some v =>
    obtain ⟨hvo, hmov⟩ := M.inv o v ho
    have hov : o ≠ v := gg.ne hmov
    have hmvo : mayB rows wd v o = true := by rw [gg.symm]; exact hmov
    have hcv : c ≠ v := fun q => by rw [q, hvo] at hcn; cases hcn
    (first | with_reducible refine jSt ?_ | with_reducible refine jSn ?_ | rw [Option.isSome_some])
    walk_at "go"
    refine d_at S (S.atLed (List.mem_cons_self ..)) D ho (by rfl) ?_; clear S; intro vx s hvx S
    refine jY1 hvx ?_
    rintro tv rfl
    walk_at "go"
    refine l_new S (by simp) ?_; clear S; intro lm s S _
    walk_at "go"
    refine jX3 (S.freeze) ?_
    clear S
    intro h₂ k₂ hlm S
    replace G := G.mono k₂
    replace F := F.mono k₂
    replace Y := ObjAt.mono Y k₂
    replace kW := kW.trans k₂
    clear k₂
    refine it_list S R.handled hlm rfl ⟨_, rfl⟩ ?_
    clear S
    intro it s It
    refine loop_it (fun i ρ Λ => ∃ a od1 m1, ρ = [(Str.ofString "_law_rows_here", some (.ref lr)), (Str.ofString "_law_laying", some (.ref ly)), (Str.ofString "_law_cell", some (.int c tc)), (Str.ofString "_law_near", some (.ref lb)), (Str.ofString "_law_other", some (.int o to)), (Str.ofString "_law_mates", some (.ref lm)), (Str.ofString "_law_mate", a), (Str.ofString "_law_good", none)] ∧ Λ = [(d, od1)] ∧ DG PP w RInt od1 m1 ∧ (i = 0 → m1 = m) ∧ (i = 1 → m1 = mdel (mdel m v) o)) It (jI3 _ _ _ rfl rfl ⟨D, fun _ => rfl, fun q => by cases q⟩) ?_ ?_ ?_
    · intro i ρ' Λ' hJx; exact jE3 hJx fun _ _ _ _ e _ => by rw [e]; rfl
    · rintro i u ρ₁ Λ₁ hi1 hu hJx
      refine jE3 hJx ?_
      clear hJx
      rintro a od1 m1 rfl rfl ⟨D1, e0, _⟩
      have hi0 : i = 0 := by simpa using hi1
      subst hi0
      have e0' := e0 rfl
      subst e0'
      have hu' : u = .int v tv := by simpa using hu.symm
      subst hu'
      refine ⟨_, .tail (.tail (.tail (.tail (.tail (.tail .head))))), ?_⟩
      walk_at "turn"
      replace F := F.mono k
      replace Y := ObjAt.mono Y k
      clear k
      walk_at "go"
      refine lift_spec S.base ((S.led (d, od1) (by walk_at "mm")).2.2.2 rfl) G (R.in_ (by decide)) F Y (S.atLed (by walk_at "mm")) D1 hds M hvo (by (first | lia | omega)) ?_
      intro od2 s' D2 up
      replace S := S.upd .head up
      walk_at "go"
      exact hNx _ _ _ _ (Sub.refl _) S (jI3 _ _ _ rfl rfl ⟨D2, (fun q => by cases q), fun _ => rfl⟩)
    clear It
    rintro ρ' Λ' s hJx
    refine jE3 hJx ?_
    clear hJx
    rintro a od1 m1 rfl rfl ⟨D1, _, e1⟩ S
    have e1' := e1 rfl
    subst e1'
    have M1 := M.lift hvo
    have l1 := mdel_len m v
    have l2 := mdel_len (mdel m v) o
    have p1 : mget (mdel (mdel m v) o) o = none := by rw [mget_mdel, if_pos rfl]
    have p2 : mget (mdel (mdel m v) o) c = none := by rw [mget_mdel, if_neg hne, mget_mdel, if_neg hcv, hcn]
    walk_at "go"
    refine put_spec S.base ((S.led (d, od1) (by walk_at "mm")).2.2.2 rfl) G (R.in_ (by decide)) F Y (S.atLed (by walk_at "mm")) D1 hds hmo' p1 p2 (by (first | lia | omega)) ?_
    intro od2 s' D2 up
    replace S := S.upd .head up
    clear up
    have M2 := M1.put gg hmo' p1 p2
    have g1 : mget (mput (mput (mdel (mdel m v) o) o c) c o) c = some o := by rw [mget_mput, if_pos rfl]
    walk_at "go"
    refine d_in S (S.atLed (List.mem_cons_self ..)) D2 hds ?_; clear S; intro s S
    rw [g1, Option.isSome_some]
    walk_at "go"
    refine d_at S (S.atLed (List.mem_cons_self ..)) D2 g1 (by rfl) ?_; clear S; intro vx s hvx S
    refine jY1 hvx ?_
    rintro tx rfl
    walk_at "go"
    rw [beq_self_eq_true]
    walk_at "go"
    refine bare_spec (S.gr G) (R.in_ (by decide)) (F.mono S.base) (ObjAt.mono Y S.base) (S.atLed (List.mem_cons_self ..)) D2 hds ?_
    intro lB yB kB' s' hD hD' hiB hk
    replace S := S.keeps hk
    have hcB : c ∉ bareL (mput (mput (mdel (mdel m v) o) o c) c o) (cellsL rows wd) := fun q => by
      have := (List.mem_filter.mp q).2
      rw [g1] at this; cases this
    walk_at "go"
    refine l_notin (IntL.of hD' hiB) ?_
    rw [decide_eq_false hcB]
    clear hk hD hD' hiB
    walk_at "go"
    have l3 := mput_len (mdel (mdel m v) o) o c
    have l4 := mput_len (mput (mdel (mdel m v) o) o c) c o
    refine lift_spec S.base ((S.led (d, od2) (by walk_at "mm")).2.2.2 rfl) G (R.in_ (by decide)) F Y (S.atLed (by walk_at "mm")) D2 hds M2 g1 (by (first | lia | omega)) ?_
    intro od3 s' D3 up
    replace S := S.upd .head up
    clear up
    have M3 := M2.lift g1
    generalize hm3 : mdel (mdel (mput (mput (mdel (mdel m v) o) o c) c o) c) o = m3 at D3 M3
    have h3 : ∀ x, mget m3 x = if x = o then none else if x = v then none else mget m x := fun x => by
      rw [← hm3, mget_mdel, mget_mdel, mget_mput, mget_mput, mget_mdel, mget_mdel]
      by_cases e1 : x = o
      · rw [if_pos e1, if_pos e1]
      · rw [if_neg e1, if_neg e1]
        by_cases e2 : x = c
        · subst e2
          simp [hcv, hcn]
        · rw [if_neg e2, if_neg e2, if_neg e1]
    have l5 := lay_len M3
    clear hm3
    walk_at "go"
    refine it_list S R.handled hlm rfl ⟨_, rfl⟩ ?_
    clear S
    intro it s It
    refine loop_it (fun i ρ Λ => ∃ a od4 m4, ρ = [(Str.ofString "_law_rows_here", some (.ref lr)), (Str.ofString "_law_laying", some (.ref ly)), (Str.ofString "_law_cell", some (.int c tc)), (Str.ofString "_law_near", some (.ref lb)), (Str.ofString "_law_other", some (.int o to)), (Str.ofString "_law_mates", some (.ref lm)), (Str.ofString "_law_mate", a), (Str.ofString "_law_good", some (.bool true))] ∧ Λ = [(d, od4)] ∧ DG PP w RInt od4 m4 ∧ (i = 0 → m4 = m3) ∧ (i = 1 → m4 = mput (mput m3 v o) o v)) It (jI3 _ _ _ rfl rfl ⟨D3, fun _ => rfl, fun q => by cases q⟩) ?_ ?_ ?_
    · intro i ρ' Λ' hJx; exact jE3 hJx fun _ _ _ _ e _ => by rw [e]; rfl
    · rintro i u ρ₁ Λ₁ hi1 hu hJx
      refine jE3 hJx ?_
      clear hJx
      rintro a od4 m4 rfl rfl ⟨D4, e0, _⟩
      have hi0 : i = 0 := by simpa using hi1
      subst hi0
      have e0' := e0 rfl
      subst e0'
      have hu' : u = .int v tv := by simpa using hu.symm
      subst hu'
      refine ⟨_, .tail (.tail (.tail (.tail (.tail (.tail .head))))), ?_⟩
      walk_at "turn"
      replace F := F.mono k
      replace Y := ObjAt.mono Y k
      clear k
      walk_at "go"
      refine put_spec S.base ((S.led (d, od4) (by walk_at "mm")).2.2.2 rfl) G (R.in_ (by decide)) F Y (S.atLed (by walk_at "mm")) D4 hds hmvo (by rw [h3, if_neg (Ne.symm hov), if_pos rfl]) (by rw [h3, if_pos rfl]) (by (first | lia | omega)) ?_
      intro od5 s' D5 up
      replace S := S.upd .head up
      walk_at "go"
      exact hNx _ _ _ _ (Sub.refl _) S (jI3 _ _ _ rfl rfl ⟨D5, (fun q => by cases q), fun _ => rfl⟩)
    clear It
    rintro ρ' Λ' s hJx
    refine jE3 hJx ?_
    clear hJx
    rintro a od4 m4 rfl rfl ⟨D4, _, e1⟩ S
    have e1' := e1 rfl
    subst e1'
    walk_at "go"
    refine h od4 _ s ⟨S.same, fun x o hx e => S.base _ _ (kW _ _ (w3 x o hx e)), S.atLed (List.mem_cons_self ..)⟩ D4 (M3.put gg hmvo (by rw [h3, if_neg (Ne.symm hov), if_pos rfl]) (by rw [h3, if_pos rfl])) fun x => ?_
    rw [mget_mput, mget_mput, h3]
    by_cases e1 : x = o
    · rw [if_pos e1, e1, ho]
    · rw [if_neg e1]
      by_cases e2 : x = v
      · rw [if_pos e2, e2, hvo]
      · rw [if_neg e2, if_neg e1, if_neg e2]

theorem slabs_ext {m m' : Mp Int} {ks : List Int} (h : ∀ x, mget m' x = mget m x) : slabsL m' ks = slabsL m ks := by
  unfold slabsL
  congr 1
  funext c
  rw [h]
/-- slabs lifted one by one -/
structure Lft (may : Int → Int → Bool) (m : Mp Int) (ps : List (Int × Int)) (i : Nat) (m' : Mp Int) : Prop where
  lay : LayM may m'
  sub : ∀ x y, mget m' x = some y → mget m x = some y
  on : ∀ j a b, i ≤ j → ps[j]? = some (a, b) → mget m' a = some b
  off : ∀ j a b, j < i → ps[j]? = some (a, b) → mget m' a = none ∧ mget m' b = none
theorem Lft.start {may : Int → Int → Bool} {m : Mp Int} {ks : List Int} (M : LayM may m) : Lft may m (slabsL m ks) 0 m :=
  ⟨M, fun _ _ h => h, fun j a b _ h => (slabs_mem.mp (List.mem_of_getElem? h)).2.1, fun j a b h => absurd h (Nat.not_lt_zero _)⟩
theorem Lft.lift {may : Int → Int → Bool} {m m' : Mp Int} {ks : List Int} {i : Nat} {a b : Int} (M : LayM may m) (nd : ks.Nodup) (l : Lft may m (slabsL m ks) i m') (h : (slabsL m ks)[i]? = some (a, b)) :
    mget m' a = some b ∧ Lft may m (slabsL m ks) (i + 1) (mdel (mdel m' a) b) := by
  have hab := l.on i a b (Nat.le_refl _) h
  obtain ⟨h1, h2, h3⟩ := slabs_mem.mp (List.mem_of_getElem? h)
  refine ⟨hab, l.lay.lift hab, fun x y hxy => ?_, fun j x y hj hx => ?_, fun j x y hj hx => ?_⟩
  · rw [mget_mdel, mget_mdel] at hxy
    split at hxy
    · cases hxy
    · split at hxy
      · cases hxy
      · exact l.sub x y hxy
  · obtain ⟨x1, x2, x3⟩ := slabs_mem.mp (List.mem_of_getElem? hx)
    have e1 : x ≠ a := fun e => by
      have nds := slabs_nodup (m := m) nd
      have q1 : ((slabsL m ks).map (·.1))[i]? = some a := by rw [List.getElem?_map, h]; rfl
      have q2 : ((slabsL m ks).map (·.1))[j]? = some a := by rw [List.getElem?_map, hx, ← e]; rfl
      have := nodup_get nds q1 q2
      (first | lia | omega)
    have e2 : x ≠ b := fun e => by
      subst e
      have := (M.inv a x h2).1
      rw [this] at x2
      cases x2
      (first | lia | omega)
    rw [mget_mdel, mget_mdel, if_neg e2, if_neg e1]
    exact l.on j x y (by (first | lia | omega)) hx
  · rw [mget_mdel, mget_mdel, mget_mdel, mget_mdel]
    by_cases e : j = i
    · subst e
      rw [h] at hx
      cases hx
      simp
    · obtain ⟨z1, z2⟩ := l.off j x y (by (first | lia | omega)) hx
      rw [z1, z2]
      simp
theorem Lft.nil {may : Int → Int → Bool} {sh : Int → Int} {m m' : Mp Int} {ks : List Int} (g : Gph may sh) (M : LayM may m) (hk : ks.Perm (m.map (·.1))) (l : Lft may m (slabsL m ks) (slabsL m ks).length m') : m' = [] := by
  have key : ∀ x y, mget m x = some y → x ∈ ks := fun x y q => hk.mem_iff.mpr (List.mem_map_of_mem (f := (·.1)) (mget_mem q))
  refine mget_nil fun x => ?_
  cases e : mget m' x with
  | none => rfl
  | some y =>
    have q := l.sub x y e
    obtain ⟨q1, q2⟩ := M.inv x y q
    have hne := g.ne q2
    by_cases hlt : x < y
    · have : (x, y) ∈ slabsL m ks := slabs_mem.mpr ⟨key x y q, q, hlt⟩
      obtain ⟨j, hj⟩ := List.getElem?_of_mem this
      obtain ⟨hl, _⟩ := List.getElem?_eq_some_iff.mp hj
      rw [(l.off j x y hl hj).1] at e; cases e
    · have : (y, x) ∈ slabsL m ks := slabs_mem.mpr ⟨key y x q1, q1, by (first | lia | omega)⟩
      obtain ⟨j, hj⟩ := List.getElem?_of_mem this
      obtain ⟨hl, _⟩ := List.getElem?_eq_some_iff.mp hj
      rw [(l.off j y x hl hj).2] at e; cases e
theorem key_perm {m m' : Mp Int} (nd : (m.map (·.1)).Nodup) (nd' : (m'.map (·.1)).Nodup) (h : ∀ x, mget m' x = mget m x) : (m'.map (·.1)).Perm (m.map (·.1)) := by
  refine (List.perm_ext_iff_of_nodup nd' nd).mpr fun x => ?_
  have := h x
  rw [← Decidable.not_iff_not, ← mget_none_iff, ← mget_none_iff, this]
theorem key_sorted {m m' : Mp Int} {ks ks' : List Int} (nd : (m.map (·.1)).Nodup) (nd' : (m'.map (·.1)).Nodup) (h : ∀ x, mget m' x = mget m x) (p : ks.Perm (m.map (·.1))) (p' : ks'.Perm (m'.map (·.1))) (s : ks.Pairwise (· ≤ ·)) (s' : ks'.Pairwise (· ≤ ·)) : ks' = ks :=
  perm_sorted (p'.trans ((key_perm nd nd' h).trans p.symm)) s' s


/-- the lower cell of a slab -/
def lowB (m : Mp Int) (c : Int) : Bool := match mget m c with | some v => decide (c < v) | none => false
def GPr (m : Mp Int) (v : Value) (o : Obj) : Prop := ∃ c x t t' u, v = .int c t ∧ mget m c = some x ∧ o = tup #[.int c t', .int x u]
theorem slabs_low (m : Mp Int) : ∀ ks : List Int, slabsL m ks = (ks.filter (lowB m)).map fun c => (c, (mget m c).getD 0)
  | [] => rfl
  | c :: r => by
    have ih := slabs_low m r
    unfold slabsL at ih ⊢
    rw [List.filterMap_cons, List.filter_cons]
    unfold lowB at ih ⊢
    cases e : mget m c with
    | none => simpa using ih
    | some v =>
      by_cases q : c < v
      · simp [q, e]; simpa using ih
      · simp [q]; simpa using ih
theorem pairs_new {m : Mp Int} {h : Heap} : ∀ {vs ys : List Value} {ks : List Int}, IntsAre vs ks → Paired (NewIs (GPr m) h) vs ys → ys.length = ks.length ∧ ∀ (j : Nat) (p : Int × Int), (ks.map fun c => (c, (mget m c).getD 0))[j]? = some p → ∃ x t u, ys[j]? = some (Value.ref x) ∧ h.get? x = some (tup #[.int p.1 t, .int p.2 u])
  | _, _, _, .nil, .nil => ⟨rfl, fun j p q => by simp at q⟩
  | _, _, _, .cons n t r, .cons a b => by
    obtain ⟨i1, i2⟩ := pairs_new r b
    obtain ⟨T, o, rfl, h1, c, x, t1, t2, u, e1, e2, rfl⟩ := a
    cases e1
    refine ⟨by simp [i1], fun j p q => ?_⟩
    cases j with
    | zero =>
      simp at q
      subst q
      refine ⟨T, t2, u, rfl, ?_⟩
      rw [e2]; exact h1
    | succ j => simpa using i2 j p (by simpa using q)
theorem PairL.new {m : Mp Int} {h : Heap} {D : Addr} {ys : Array Value} {k : Nat} {vs : List Value} {ks : List Int} (e : h.get? D = some (lst ys k)) (hi : IntsAre vs ks) (p : Paired (NewIs (GPr m) h) (vs.filter (onI (lowB m))) ys.toList) : PairL h D (slabsL m ks) := by
  obtain ⟨q1, q2⟩ := pairs_new (filtI hi) p
  refine ⟨ys, k, e, ?_, fun j p hp => ?_⟩
  · rw [slabs_low, List.length_map, ← q1, Array.length_toList]
  · rw [slabs_low] at hp
    obtain ⟨x, t, u, z1, z2⟩ := q2 j p hp
    exact ⟨x, t, u, by rw [← Array.getElem?_toList]; exact z1, z2⟩
theorem PairL.made {s s' : Shared} {h : Heap} {D : Addr} {ys : Array Value} {k : Nat} {ps : List (Int × Int)} (e : h.get? D = some (lst ys k)) (hk : Sub s'.heap h) (q : ys.size = ps.length ∧ ∀ (j : Nat) (p : Int × Int), ps[j]? = some p → ∃ x t u, ys[j]? = some (Value.ref x) ∧ s.heap.get? x = none ∧ s'.heap.get? x = some (tup #[.int p.1 t, .int p.2 u])) : PairL h D ps :=
  ⟨ys, k, e, q.1, fun j p hp => by obtain ⟨x, t, u, a, _, c⟩ := q.2 j p hp; exact ⟨x, t, u, a, hk _ _ c⟩⟩
theorem PairL.newer {s s' : Shared} {h : Heap} {D : Addr} {ys : Array Value} {k : Nat} {ps : List (Int × Int)} (hN : Newer s s' h) (e : h.get? D = some (lst ys k)) (q : ys.size = ps.length ∧ ∀ (j : Nat) (p : Int × Int), ps[j]? = some p → ∃ x t u, ys[j]? = some (Value.ref x) ∧ s.heap.get? x = none ∧ s'.heap.get? x = some (tup #[.int p.1 t, .int p.2 u])) : PairL h D ps :=
  ⟨ys, k, e, q.1, fun j p hp => by obtain ⟨x, t, u, a, b, c⟩ := q.2 j p hp; exact ⟨x, t, u, a, hN _ _ b c⟩⟩
theorem PairL.at {h : Heap} {D : Addr} {ps : List (Int × Int)} (x : PairL h D ps) : ∃ ys k, h.get? D = some (lst ys k) ∧ ys.size = ps.length ∧ ∀ (j : Nat) (p : Int × Int), ps[j]? = some p → ∃ x t u, ys[j]? = some (Value.ref x) ∧ h.get? x = some (tup #[.int p.1 t, .int p.2 u]) := x

theorem cmp_Floor (w : World) : cmpB (Fl.kH w.params) 189 = true := by kernel_rfl
theorem told_well_spec {w : World} {A : Around} {s : Shared} {Q E : Value → Shared → Prop} {ly fl l d lr : Addr} {od : Obj} {m : Mp Int} {rows : List Str} {wd : Nat} {t1 t2 : Tok} {B : Heap} {Λ₀ : List (Addr × Obj)} {outer : List Env} (Gw : Gr (Fl.kH w.params) (without B (· = d))) (R : Room A 14) (hrw : StrL (without B (· = d)) lr rows) (Fw : FloorAt 189 (without B (· = d)) fl l rows wd t1 t2) (Yw : LayO (without B (· = d)) ly fl d)
    (hod : B.get? d = some od) (D : DG PP w RInt od m) (hds : (d == sysModules) = false) (M : LayM (mayB rows wd) m) (c : Cov B Λ₀ s.heap) (k₀ : Stk A B outer s.heap)
    (h : ∀ od' m' s', DG PP w RInt od' m' → LayM (mayB rows wd) m' → (∀ x, mget m' x = mget m x) → LandD (without B (· = d)) d od' s s' → Q (.bool true) s') : wpAny (model PP w) A (call (.ref 347) [.ref lr, .ref ly]) Q E s := by
  have kW : Sub (without B (· = d)) B := without_sub _ _
  refine' callK (h₀ := B) (Λ := Λ₀) [(Str.ofString "_law_rows_here", some (.ref lr)), (Str.ofString "_law_laying", some (.ref ly)), (Str.ofString "_law_over_here", none), (Str.ofString "_law_cell", none), (Str.ofString "_law_slabs", none), (Str.ofString "_law_bare", none), (Str.ofString "_law_copy", none), (Str.ofString "_law_slab", none)] ((Gw.mono kW).mono c.sub) (by walk_at "room") ?z_ho ?z_hcd ?z_hbind ?z_hd ?z_hb1 ?z_hb2 ?z_hρ c.sub c.led c.nd ?_
  walk_at "enter"
  intro L s S
  have g := Fw.grid
  have gg := gph g
  have hml := lay_len M
  have hcl := cells_len rows wd
  have hlw := (len_wd g).1
  replace S := S.thaw hod
  have G := Gw
  have F := Fw
  have Y := Yw
  have hr := hrw
  have KB : Sub (without B (· = d)) (without B (· = d)) := Sub.refl _
  walk_at "go"
  refine' x_lcN [(Str.ofString "_law_over_here", some (.ref d))] (onI (lowB m)) (GPr m) ?z_sw S ?z_ok ?z_hy ?z_ek ?z_sel ?_ ?z_hs
  case z_sw => rfl
  case z_ok => kernel_rfl
  case z_hy => kernel_rfl
  case z_ek => rfl
  case z_sel => exact Sel.cons (by walk_at "lk") Sel.nil
  case z_hs => intro _; rfl
  walk_at "go"
  refine d_sorted S R.handled (S.atLed (List.mem_cons_self ..)) D hds (by (first | lia | omega)) ?_; intro l0 out e0 ks s hout hperm hsrt S' hn0
  have hno0 : ¬ CS.own _ ((d, od) :: Λ₀) l0 := fun q => by obtain ⟨o, e⟩ := S.own_at q; rw [hn0] at e; cases e
  have hl0 := S'.atLed (List.mem_cons_self ..)
  replace S := S'.tl rfl
  clear S' hn0
  have hnd : ks.Nodup := hperm.nodup_iff.mpr M.nd
  have hkl : ks.length = m.length := by rw [hperm.length_eq, List.length_map]
  have hol : out.size = ks.length := by rw [← hout.length, Array.length_toList]
  have hkey : ∀ x ∈ ks, ∃ v, mget m x = some v := fun x hx => by
    have := hperm.mem_iff.mp hx
    cases e : mget m x with
    | some v => exact ⟨v, rfl⟩
    | none => exact absurd this (mget_none_iff.mp e)
  refine it_listN S R.handled hl0 hno0 ?_
  clear S
  intro it s I
  refine comp_itN I (by (first | lia | omega)) ?_ ?_ ?_
  · intro C i v s E' hlt hv S
    refine jY2 (hout.at i v (by simpa using hv)) ?_
    rintro c tc rfl hc
    obtain ⟨x, hx⟩ := hkey c (List.mem_of_getElem? hc)
    refine tests1 ?_
    walk_at "go"
    refine d_at S (S.atLed (List.mem_cons_self ..)) D hx (by rfl) ?_; clear S; intro vx s hvx S
    refine jY1 hvx ?_
    rintro tx rfl
    walk_at "go"
    refine ⟨?_, S.quiet⟩
    show _ = lowB m c
    unfold lowB
    rw [hx]
  · intro C i v s E' hlt hv hp S
    refine jY2 (hout.at i v (by simpa using hv)) ?_
    rintro c tc rfl hc
    obtain ⟨x, hx⟩ := hkey c (List.mem_of_getElem? hc)
    walk_at "go"
    refine d_at S (S.atLed (List.mem_cons_self ..)) D hx (by rfl) ?_; clear S; intro vx s hvx S
    refine jY1 hvx ?_
    rintro tx rfl
    walk_at "go"
    refine u_newC S (by simp) ?_; clear S; intro tu s S hlt'
    exact ⟨⟨tu, _, rfl, hlt', S.atLed (List.mem_cons_self ..), c, x, _, _, _, rfl, hx, rfl⟩, S.quiet⟩
  intro ls kl yl vs p1 p2 p3
  refine ⟨_, by walk_at "pt", fun h₂ s k₂ hN S => ?_⟩
  have hv := vs_list p1 p2
  subst hv
  refine jX3 (S.freeze) ?_
  clear S
  intro h₃ k₃ hls S
  have hLs : PairL h₃ ls (slabsL m ks) := PairL.new hls hout (paired_to (fun _ _ q => by obtain ⟨T, o, a, b, c⟩ := q; exact ⟨T, o, a, k₃ _ _ b, c⟩) hN)
  have k₂₃ := k₂.trans k₃
  replace G := G.mono k₂₃
  replace F := F.mono k₂₃
  replace Y := ObjAt.mono Y k₂₃
  replace hr := hr.mono k₂₃
  replace KB := KB.trans k₂₃
  clear k₂ k₃ k₂₃ hN hls I hl0 hno0
  have hpl : (slabsL m ks).length ≤ ks.length := List.length_filterMap_le ..
  walk_at "go"
  refine' x_lc [(Str.ofString "_law_over_here", some (.ref d))] (onI (fun c => (mget m c).isNone)) (FII id) ?z_sw S ?z_ok ?z_hy ?z_ek ?z_sel ?_ ?z_hs
  case z_sw => rfl
  case z_ok => kernel_rfl
  case z_hy => kernel_rfl
  case z_ek => rfl
  case z_sel => exact Sel.cons (by walk_at "lk") Sel.nil
  case z_hs => intro _; rfl
  walk_at "go"
  refine lcells_spec (S.gr G) (R.in_ (by decide)) (hr.mono S.base) g ?_
  intro lc yc kc s' hD hD' hi hk
  have hno : ¬ CS.own _ ((d, od) :: Λ₀) lc := fun q => by obtain ⟨o, e⟩ := S.own_at q; rw [hD] at e; cases e
  replace S := CS.keeps S hk; clear hk
  have hyc : yc.size = (cellsL rows wd).length := by rw [← hi.length, Array.length_toList]
  refine it_listN S R.handled hD' hno ?_
  intro it s I
  refine comp_it I (by (first | lia | omega)) ?_ ?_ ?_
  · intro C i v s E' hlt hv S
    refine jY2 (hi.at i v (by simpa using hv)) ?_
    rintro c tc rfl hc
    refine tests1 ?_
    walk_at "go"
    refine d_notin S (S.atLed (List.mem_cons_self ..)) D hds ?_; clear S; intro s S
    walk_at "go"
    refine ⟨?_, S.quiet⟩
    show _ = (mget m c).isNone
    cases mget m c <;> rfl
  · intro C i v s E' hlt hv hp S
    refine jY2 (hi.at i v (by simpa using hv)) ?_
    rintro c tc rfl hc
    walk_at "go"
    exact ⟨⟨_, _, _, rfl, rfl⟩, S.quiet⟩
  intro lb kb yb vs p1 p2 p3 hDb
  refine ⟨_, by walk_at "pt", fun s S => ?_⟩
  have hv := vs_list p1 p2
  subst hv
  have hyb := pairII (filtI hi) p3
  rw [List.map_id] at hyb
  clear I p1 p2 p3 hDb hno hD hD' hi
  refine jX3 (S.freeze) ?_
  clear S
  intro h₄ k₄ hlb S
  have hLb : IntL h₄ lb (bareL m (cellsL rows wd)) := IntL.of hlb hyb
  have hbl : (bareL m (cellsL rows wd)).length ≤ (cellsL rows wd).length := List.length_filter_le ..
  replace G := G.mono k₄
  replace F := F.mono k₄
  replace Y := ObjAt.mono Y k₄
  replace hr := hr.mono k₄
  replace KB := KB.trans k₄
  replace hLs := hLs.mono k₄
  clear k₄
  walk_at "go"
  refine copied_spec (S.gr G) (R.in_ (by decide)) (F.mono S.base) (ObjAt.mono Y S.base) (S.atLed (List.mem_cons_self ..)) D hds M (by (first | lia | omega)) ?_
  intro ly' dx o2 d' od2 m2 s' P₀ n1 n2 ne1 ne2 D2 M2 ext2 hm2 hd' hd'' hds' hk
  have hGa := G
  have hFa := F
  have hYa := Y
  have hra := hr
  have hLsa := hLs
  have hLba := hLb
  have KBa := KB
  have n3 : h₄.get? d' = none := S.base.none hd'
  have hdd : d' ≠ d := fun q => by rw [q, S.atLed (List.mem_cons_self ..)] at hd'; cases hd'
  refine jX3 (CS.gnew S hk) ?_
  clear S
  intro h₅ k₅ S hN
  have P₁ : LayP h₅ ly' dx o2 fl d' := ⟨hN _ _ n1 P₀.a1, hN _ _ n2 P₀.a2, P₀.lk⟩
  have hod2 : h₅.get? d' = some od2 := hN _ _ hd' hd''
  replace G := G.mono k₅
  replace F := F.mono k₅
  replace Y := ObjAt.mono Y k₅
  replace hr := hr.mono k₅
  replace KB := KB.trans k₅
  replace hLs := hLs.mono k₅
  replace hLb := hLb.mono k₅
  clear hk hN P₀ n1 n2 hd' hd''
  have hu64 : A.units + 200 < cLine := by have := R.units; (first | lia | omega)
  walk_at "go"
  refine slabs_spec (rows := rows) (wd := wd) (S.gr G) (R.in_ (by decide)) (ObjAt.mono Y S.base) (S.atLed (List.mem_cons_self ..)) D hds M (by (first | lia | omega)) ?_
  intro lx yx kx ksx s' hD hD' hpx hsx hxs hk
  have ekx := key_sorted M.nd M.nd (fun _ => rfl) hperm hpx hsrt hsx
  rw [ekx] at hxs
  have hLx : PairL s'.heap lx _ := PairL.made hD' (Sub.refl _) hxs
  replace S := S.keeps hk
  clear hk hxs hD hD' hpx hsx
  walk_at "go"
  refine p_ne hLx (hLs.mono S.base) (by walk_at "room") ?_
  clear hLx
  (first | with_reducible refine jDt ?_ | with_reducible refine jDn ?_ | rw [decide_eq_true rfl])
  walk_at "go"
  refine bare_spec (S.gr G) (R.in_ (by decide)) (F.mono S.base) (ObjAt.mono Y S.base) (S.atLed (List.mem_cons_self ..)) D hds ?_
  intro lx yx kx s' hD hD' hxi hk
  have hLx : IntL s'.heap lx _ := IntL.of hD' hxi
  replace S := S.keeps hk
  clear hk hxi hD hD'
  walk_at "go"
  refine l_ne hLx (hLb.mono S.base) (by walk_at "room") ?_
  clear hLx
  (first | with_reducible refine jDt ?_ | with_reducible refine jDn ?_ | rw [decide_eq_true rfl])
  walk_at "go"
  have hYs := Y
  clear Y
  have Y := P₁.obj
  walk_at "go"
  refine slabs_spec (rows := rows) (wd := wd) (S.gr G) (R.in_ (by decide)) (ObjAt.mono Y S.base) (S.atBase hod2) D2 hds' M2 (by have := lay_len M2; (first | lia | omega)) ?_
  intro lx yx kx ksx s' hD hD' hpx hsx hxs hk
  have ekx := key_sorted M.nd M2.nd ext2 hperm hpx hsrt hsx
  rw [ekx] at hxs
  rw [slabs_ext ext2] at hxs
  have hLx : PairL s'.heap lx _ := PairL.made hD' (Sub.refl _) hxs
  replace S := S.keeps hk
  clear hk hxs hD hD' hpx hsx
  walk_at "go"
  refine p_ne hLx (hLs.mono S.base) (by walk_at "room") ?_
  clear hLx Y
  have Y := hYs
  (first | with_reducible refine jDt ?_ | with_reducible refine jDn ?_ | rw [decide_eq_true rfl])
  walk_at "go"
  obtain ⟨ysl, ksl, hls, hsl, hpr⟩ := hLs.at
  refine sl_list S (S.atBase hls) .none (.int ..) (by (first | lia | omega)) ?_; clear S; intro lt s S _
  rw [show slicePick ysl none (some 3) none = (ysl.toList.take 3).toArray from slicePick_upto' ysl 3] at S
  refine jX3 (S.freeze) ?_
  clear S
  intro h₆ k₆ hlt S
  replace G := G.mono k₆
  replace F := F.mono k₆
  replace Y := ObjAt.mono Y k₆
  replace hr := hr.mono k₆
  replace KB := KB.trans k₆
  replace hLb := hLb.mono k₆
  have k46 := k₅.trans k₆
  refine it_list S R.handled hlt rfl ⟨_, rfl⟩ ?_
  clear S
  intro it s I
  refine loop_it (fun i ρ Λ => ∃ a od1 m1 Λ1, ρ = [(Str.ofString "_law_rows_here", some (.ref lr)), (Str.ofString "_law_laying", some (.ref ly)), (Str.ofString "_law_over_here", some (.ref d)), (Str.ofString "_law_cell", none), (Str.ofString "_law_slabs", some (.ref ls)), (Str.ofString "_law_bare", some (.ref lb)), (Str.ofString "_law_copy", some (.ref ly')), (Str.ofString "_law_slab", a)] ∧ Λ = (d, od1) :: Λ1 ∧ Slk Λ₀ Λ1 ∧ DG PP w RInt od1 m1 ∧ LayM (mayB rows wd) m1 ∧ ∀ x, mget m1 x = mget m x) I (jI4 _ _ _ _ rfl rfl ⟨Slk.refl _, D, M, fun _ => rfl⟩) ?_ ?_ ?_
  · rintro i ρ' Λ' ⟨_, _, _, _, _, rfl, x, _⟩
    show _ :: _ = _ :: _
    rw [x.adr]
  · rintro i v ρ₁ Λ₁ hi1 hv hJx
    refine jE4 hJx ?_
    clear hJx
    rintro a od1 m1 Λ1 rfl rfl ⟨x1, D1, M1, ext1⟩
    have hi2 : i < (slabsL m ks).length := by
      rw [List.size_toArray, List.length_take, Array.length_toList, hsl] at hi1; (first | lia | omega)
    obtain ⟨⟨pa, pb⟩, hp⟩ : ∃ p, (slabsL m ks)[i]? = some p := ⟨_, List.getElem?_eq_getElem hi2⟩
    obtain ⟨tx, ta, tb, e1, e2⟩ := hpr i _ hp
    have hi3 : i < 3 := by rw [List.size_toArray, List.length_take] at hi1; (first | lia | omega)
    have hv' : v = .ref tx := by
      rw [List.getElem?_toArray, List.getElem?_take, if_pos hi3, Array.getElem?_toList, e1] at hv
      exact (Option.some.inj hv).symm
    subst hv'
    have hab : mget m1 pa = some pb := by rw [ext1]; exact (slabs_mem.mp (List.mem_of_getElem? hp)).2.1
    refine ⟨_, .tail (.tail (.tail (.tail (.tail (.tail (.tail .head)))))), ?_⟩
    walk_at "turn"
    replace F := F.mono k
    replace Y := ObjAt.mono Y k
    have e2' := (k₆.trans k) _ _ e2
    walk_at "go"
    have hh0 : h₁.get? d = none := S.own_no (.inr (.inr (List.mem_cons_self ..)))
    obtain ⟨B₂, k₂, hod₂, S'⟩ := S.freeze
    obtain ⟨B₃, Λ₃, k₃, S, c₃⟩ := S'.cov (x1.nf c.nf)
    clear S'
    have k₁₃ : Sub h₁ (without B₃ (· = d)) := sub_wo (k₂.trans k₃) hh0
    have ks₀ := (Stk.wider k₀ c S (fun p hp => by rw [x1.adr]; exact List.mem_map_of_mem hp) (x1.nf c.nf)).deeper S (Sub.refl _) rfl
    have hl1 := lay_len M1
    refine put_again_spec (G.mono k₁₃) (R.in_ (by decide)) (F.mono k₁₃) (ObjAt.mono Y k₁₃) (k₃ _ _ hod₂) D1 hds M1 (k₁₃ _ _ e2') hab (by (first | lia | omega)) c₃ ks₀ ?_
    intro od3 m3 s' D3 M3 ext3 ld
    replace S := S.thaw (k₃ _ _ hod₂)
    obtain ⟨Λ4, x4, S'⟩ := S.landD (x1.nf c.nf) D3.nf ld
    replace S := S'
    clear S' ld ks₀ c₃
    walk_at "go"
    exact hNx _ _ _ _ k₁₃ S (jI4 _ _ _ _ rfl rfl ⟨x1.trans x4, D3, M3, fun x => (ext3 x).trans (ext1 x)⟩)
  clear I
  rintro ρ' Λ' s hJx
  refine jE4 hJx ?_
  clear hJx
  rintro a1 od1 m1 Λ1 rfl rfl ⟨x1, D1, M1, ext1⟩ S
  clear hlt
  walk_at "go"
  have hsb : yb.size = (bareL m (cellsL rows wd)).length := by have := hyb.length; rw [Array.length_toList] at this; exact this
  refine sl_list S (S.atBase (k46 _ _ hlb)) .none (.int ..) (by (first | lia | omega)) ?_; clear S; intro lt s S _
  rw [show slicePick yb none (some 4) none = (yb.toList.take 4).toArray from slicePick_upto' yb 4] at S
  refine jX3 (S.freeze) ?_
  clear S
  intro h₇ k₇ hlt S
  replace G := G.mono k₇
  replace F := F.mono k₇
  replace Y := ObjAt.mono Y k₇
  replace hr := hr.mono k₇
  replace KB := KB.trans k₇
  replace hLb := hLb.mono k₇
  have k47 := k46.trans k₇
  refine it_list S R.handled hlt rfl ⟨_, rfl⟩ ?_
  clear S
  intro it s I
  refine loop_it (fun i ρ Λ => ∃ b od1 m1, ρ = [(Str.ofString "_law_rows_here", some (.ref lr)), (Str.ofString "_law_laying", some (.ref ly)), (Str.ofString "_law_over_here", some (.ref d)), (Str.ofString "_law_cell", b), (Str.ofString "_law_slabs", some (.ref ls)), (Str.ofString "_law_bare", some (.ref lb)), (Str.ofString "_law_copy", some (.ref ly')), (Str.ofString "_law_slab", a1)] ∧ Λ = (d, od1) :: Λ1 ∧ DG PP w RInt od1 m1 ∧ LayM (mayB rows wd) m1 ∧ ∀ x, mget m1 x = mget m x) I (jI3 _ _ _ rfl rfl ⟨D1, M1, ext1⟩) ?_ ?_ ?_
  · intro i ρ' Λ' hJx; exact jE3 hJx fun _ _ _ _ e _ => by rw [e]; rfl
  · rintro i v ρ₁ Λ₁ hi1 hv hJx
    refine jE3 hJx ?_
    clear hJx
    rintro b od3 m3 rfl rfl ⟨D3, M3, ext3⟩
    have hi4 : i < 4 := by rw [List.size_toArray, List.length_take] at hi1; (first | lia | omega)
    rw [List.getElem?_toArray, List.getElem?_take, if_pos hi4] at hv
    refine jY2 (hyb.at i v (by simpa using hv)) ?_
    rintro cc tc rfl hc
    obtain ⟨hc1, hc2⟩ := List.mem_filter.mp (List.mem_of_getElem? hc)
    have hcn : mget m3 cc = none := by rw [ext3]; simpa using hc2
    refine ⟨_, .tail (.tail (.tail .head)), ?_⟩
    walk_at "turn"
    replace F := F.mono k
    replace Y := ObjAt.mono Y k
    replace hr := hr.mono k
    clear k
    walk_at "go"
    refine bare_taken_spec S.base ((S.led (d, od3) (List.mem_cons_self ..)).2.2.2 rfl) G (R.in_ (by decide)) hr F Y (S.atLed (List.mem_cons_self ..)) D3 hds M3 hc1 hcn ?_
    intro od4 m4 s' up D4 M4 ext4
    replace S := S.upd .head up
    clear up
    walk_at "go"
    exact hNx _ _ _ _ (Sub.refl _) S (jI3 _ _ _ rfl rfl ⟨D4, M4, fun x => (ext4 x).trans (ext3 x)⟩)
  clear I D1 M1 ext1 od1 m1
  rintro ρ' Λ' s hJx
  refine jE3 hJx ?_
  clear hJx
  rintro b1 od1 m1 rfl rfl ⟨D1, M1, ext1⟩ S
  clear hlt
  have hYs := Y
  clear Y
  have P₇ := P₁.mono (k₆.trans k₇)
  have Y := P₇.obj
  walk_at "go"
  refine d_neF fl_int eqv_int (S.atBase ((k₆.trans k₇) _ _ hod2)) D2 hds' (S.atLed (List.mem_cons_self ..)) D1 hds (by walk_at "room") (fun x => by rw [ext2, ext1]) ?_
  walk_at "go"
  have Y2 := Y
  clear Y
  have Y := hYs
  walk_at "go"
  refine f_ne (S.gr G).X (F.mono S.base).obj (cmp_Floor w) (by walk_at "room") ?_
  clear Y
  have Y := Y2
  walk_at "go"
  refine bare_spec (S.gr G) (R.in_ (by decide)) (F.mono S.base) (ObjAt.mono Y S.base) (S.atBase ((k₆.trans k₇) _ _ hod2)) D2 hds' ?_
  intro lx yx kx s' hD hD' hxi hk
  have hbe : bareL m2 (cellsL rows wd) = bareL m (cellsL rows wd) := by unfold bareL; congr 1; funext x; rw [ext2]
  rw [hbe] at hxi
  have hLx : IntL s'.heap lx _ := IntL.of hD' hxi
  replace S := S.keeps hk
  clear hk hxi hD hD'
  walk_at "go"
  refine l_ne hLx (hLb.mono S.base) (by walk_at "room") ?_
  clear hLx
  (first | with_reducible refine jDt ?_ | with_reducible refine jDn ?_ | rw [decide_eq_true rfl])
  walk_at "go"
  replace S := S.thaw ((k₆.trans k₇) _ _ hod2)
  have kX : Sub h₄ (without h₇ (· = d')) := sub_wo k47 n3
  replace P₇ : LayP (without h₇ (· = d')) ly' dx o2 fl d' := ⟨without_get ne1 P₇.a1, without_get ne2 P₇.a2, P₇.lk⟩
  clear Y Y2 G F hr hLb hLs
  have G := hGa.mono kX
  have F := hFa.mono kX
  have Y := P₇.obj
  have hLs := hLsa.mono kX
  have hLb := hLba.mono kX
  have KX := KBa.trans kX
  obtain ⟨ysl', ksl', hls', hsl', hpr'⟩ := hLs.at
  refine it_list S R.handled hls' rfl ⟨_, rfl⟩ ?_
  clear S
  intro it s I
  refine loop_it (fun i ρ Λ => ∃ a od3 m3, ρ = [(Str.ofString "_law_rows_here", some (.ref lr)), (Str.ofString "_law_laying", some (.ref ly)), (Str.ofString "_law_over_here", some (.ref d)), (Str.ofString "_law_cell", b1), (Str.ofString "_law_slabs", some (.ref ls)), (Str.ofString "_law_bare", some (.ref lb)), (Str.ofString "_law_copy", some (.ref ly')), (Str.ofString "_law_slab", a)] ∧ Λ = (d', od3) :: (d, od1) :: Λ1 ∧ DG PP w RInt od3 m3 ∧ Lft (mayB rows wd) m2 (slabsL m2 ks) i m3) I (jI3 _ _ _ rfl rfl ⟨D2, Lft.start M2⟩) ?_ ?_ ?_
  · intro i ρ' Λ' hJx; exact jE3 hJx fun _ _ _ _ e _ => by rw [e]; rfl
  · rintro i v ρ₁ Λ₁ hi1 hv hJx
    refine jE3 hJx ?_
    clear hJx
    rintro a od3 m3 rfl rfl ⟨D3, L3⟩
    obtain ⟨⟨pa, pb⟩, hp⟩ : ∃ p, (slabsL m ks)[i]? = some p := ⟨_, List.getElem?_eq_getElem (by (first | lia | omega))⟩
    obtain ⟨tx, ta, tb, e1, e2⟩ := hpr' i _ hp
    rw [e1] at hv
    cases hv
    obtain ⟨hab, L4⟩ := L3.lift M2 hnd (by rw [slabs_ext ext2]; exact hp)
    have hl3 := lay_len L3.lay
    refine ⟨_, .tail (.tail (.tail (.tail (.tail (.tail (.tail .head)))))), ?_⟩
    walk_at "turn"
    replace F := F.mono k
    replace Y := ObjAt.mono Y k
    have e2' := k _ _ e2
    clear k
    walk_at "go"
    refine u_at (S.atBase e2') (.inl ⟨rfl, rfl⟩) (by rfl) ?_
    walk_at "go"
    refine lift_spec S.base ((S.led (d', od3) (List.mem_cons_self ..)).2.2.2 rfl) G (R.in_ (by decide)) F Y (S.atLed (List.mem_cons_self ..)) D3 hds' L3.lay hab (by (first | lia | omega)) ?_
    intro od4 s' D4 up
    replace S := S.upd .head up
    clear up
    walk_at "go"
    exact hNx _ _ _ _ (Sub.refl _) S (jI3 _ _ _ rfl rfl ⟨D4, L4⟩)
  clear I
  rintro ρ' Λ' s hJx
  refine jE3 hJx ?_
  clear hJx
  rintro a2 od3 m3 rfl rfl ⟨D3, L3⟩ S
  rw [hsl', ← slabs_ext ext2] at L3
  have hm3 := L3.nil gg M2 (hperm.trans (key_perm M.nd M2.nd ext2).symm)
  subst hm3
  clear Y
  have Y := ObjAt.mono hYa kX
  walk_at "go"
  refine slabs_spec (rows := rows) (wd := wd) (S.gr G) (R.in_ (by decide)) (ObjAt.mono Y S.base) (S.atLed (List.mem_cons_of_mem _ (List.mem_cons_self ..))) D1 hds M1 (by have := lay_len M1; (first | lia | omega)) ?_
  intro lx yx kx ksx s' hD hD' hpx hsx hxs hk
  have ekx := key_sorted M.nd M1.nd ext1 hperm hpx hsrt hsx
  rw [ekx] at hxs
  rw [slabs_ext ext1] at hxs
  have hLx : PairL s'.heap lx _ := PairL.made hD' (Sub.refl _) hxs
  replace S := S.keeps hk
  clear hk hxs hD hD' hpx hsx
  walk_at "go"
  refine p_eq hLx (hLs.mono S.base) (by walk_at "room") ?_
  clear hLx
  (first | with_reducible refine jDt ?_ | with_reducible refine jDn ?_ | rw [decide_eq_true rfl])
  walk_at "go"
  refine bare_spec (S.gr G) (R.in_ (by decide)) (F.mono S.base) (ObjAt.mono Y S.base) (S.atLed (List.mem_cons_of_mem _ (List.mem_cons_self ..))) D1 hds ?_
  intro lx yx kx s' hD hD' hxi hk
  have hbe : bareL m1 (cellsL rows wd) = bareL m (cellsL rows wd) := by unfold bareL; congr 1; funext x; rw [ext1]
  rw [hbe] at hxi
  have hLx : IntL s'.heap lx _ := IntL.of hD' hxi
  replace S := S.keeps hk
  clear hk hxi hD hD'
  walk_at "go"
  refine l_eq hLx (hLb.mono S.base) (by walk_at "room") ?_
  clear hLx Y
  (first | with_reducible refine jDt ?_ | with_reducible refine jDn ?_ | rw [decide_eq_true rfl])
  have Y := P₇.obj
  walk_at "go"
  refine slabs_spec (rows := rows) (wd := wd) (S.gr G) (R.in_ (by decide)) (ObjAt.mono Y S.base) (S.atLed (List.mem_cons_self ..)) D3 hds' L3.lay (by simp) ?_
  intro lx yx kx ksx s' hD hD' hpx hsx hxs hk
  have ekx : ksx = [] := by simpa using hpx.length_eq
  subst ekx
  walk_at "gnew"
  have hLx : PairL h₁ lx [] := ⟨yx, kx, hN _ _ hD hD', hxs.1, fun j p q => by simp at q⟩
  have k8 := k
  clear k hN hk hxs hD hD' hpx hsx
  walk_at "go"
  refine l_new S (by simp) ?_; clear S; intro le s S hne
  walk_at "go"
  have hLe : PairL s.heap le [] := ⟨_, _, S.atLed (List.mem_cons_self ..), rfl, fun j p q => by simp at q⟩
  refine p_eq (hLx.mono S.base) hLe (by walk_at "room") ?_
  (first | with_reducible refine jDt ?_ | with_reducible refine jDn ?_ | rw [decide_eq_true rfl])
  walk_at "go"
  obtain ⟨h9, k9, _, S'⟩ := S.freeze
  obtain ⟨h10, k10, _, S''⟩ := S'.freeze
  obtain ⟨h11, k11, hod11, S⟩ := S''.freeze
  exact h od1 m1 _ D1 M1 ext1 (LandD.of c x1 S ((((KX.trans k8).trans k9).trans k10).trans k11) hod11)



theorem Gon.nil {may : Int → Int → Bool} {has : Int → Bool} {m : Mp Int} : Gon may has m [] := ⟨List.nodup_nil, (fun x hx => by cases hx), (fun i a b h => by simp at h), (fun x hx => by cases hx)⟩
theorem gone_spec {w : World} {A : Around} {s : Shared} {Q E : Value → Shared → Prop} {lr d l : Addr} {od : Obj} {m : Mp Int} {rows : List Str} {wd : Nat} {ns : List Int} (G : Gr (Fl.kH w.params) s.heap) (R : Room A 5) (hr : StrL s.heap lr rows) (g : Grid rows wd) (hod : s.heap.get? d = some od) (D : DG PP w RInt od m) (hds : (d == sysModules) = false) (M : LayM (mayB rows wd) m) (hl : IntL s.heap l ns) (hn : ns.length ≤ 63)
    (h : ∀ lw yw kw W s', s.heap.get? lw = none → s'.heap.get? lw = some (lst yw kw) → IntsAre yw.toList W → Gon (mayB rows wd) (hasB rows wd) m W → W.length ≤ 40 → Keeps s s' → Q (.ref lw) s') : wpAny (model PP w) A (call (.ref 321) [.ref lr, .ref d, .ref l]) Q E s := by
  refine' callP [(Str.ofString "_law_rows_here", some (.ref lr)), (Str.ofString "_law_over_here", some (.ref d)), (Str.ofString "_law_script", some (.ref l)), (Str.ofString "_law_cells_here", none), (Str.ofString "_law_way", none), (Str.ofString "_law_k", none), (Str.ofString "_law_near", none)] G (by walk_at "room") ?z_ho ?z_hcd ?z_hbind ?z_hd ?z_hb1 ?z_hb2 ?z_hρ ?_
  walk_at "enter"
  intro L s S
  have gg := gph g
  have hcl := cells_len rows wd
  have hlw := (len_wd g).1
  walk_at "go"
  refine' x_lc [(Str.ofString "_law_over_here", some (.ref d))] (onI (fun c => (mget m c).isNone)) (FII id) ?z_sw S ?z_ok ?z_hy ?z_ek ?z_sel ?_ ?z_hs
  case z_sw => rfl
  case z_ok => kernel_rfl
  case z_hy => kernel_rfl
  case z_ek => rfl
  case z_sel => exact Sel.cons (by walk_at "lk") Sel.nil
  case z_hs => intro _; rfl
  walk_at "go"
  refine lcells_spec (S.gr G) (R.in_ (by decide)) (hr.mono S.base) g ?_
  intro lc yc kc s' hD hD' hi hk
  have hno : ¬ CS.own _ [] lc := fun q => by obtain ⟨o, e⟩ := S.own_at q; rw [hD] at e; cases e
  replace S := CS.keeps S hk; clear hk
  have hyc : yc.size = (cellsL rows wd).length := by rw [← hi.length, Array.length_toList]
  refine it_listN S R.handled hD' hno ?_
  intro it s I
  refine comp_it I (by (first | lia | omega)) ?_ ?_ ?_
  · intro C i v s E' hlt hv S
    refine jY2 (hi.at i v (by simpa using hv)) ?_
    rintro c tc rfl hc
    refine tests1 ?_
    walk_at "go"
    refine d_notin S (S.atBase hod) D hds ?_; clear S; intro s S
    walk_at "go"
    refine ⟨?_, S.quiet⟩
    show _ = (mget m c).isNone
    cases mget m c <;> rfl
  · intro C i v s E' hlt hv hp S
    refine jY2 (hi.at i v (by simpa using hv)) ?_
    rintro c tc rfl hc
    walk_at "go"
    exact ⟨⟨_, _, _, rfl, rfl⟩, S.quiet⟩
  intro lb kb yb vs p1 p2 p3 hDb
  refine ⟨_, by walk_at "pt", fun s S => ?_⟩
  have hv := vs_list p1 p2
  subst hv
  have hyb := pairII (filtI hi) p3
  rw [List.map_id] at hyb
  clear I p1 p2 p3 hDb hno hD hD' hi
  refine jX3 (S.freeze) ?_
  clear S
  intro h₁ k₁ hlb S
  have hLb : IntL h₁ lb (bareL m (cellsL rows wd)) := IntL.of hlb hyb
  have hbl : (bareL m (cellsL rows wd)).length ≤ (cellsL rows wd).length := List.length_filter_le ..
  replace G := G.mono k₁
  replace hr := hr.mono k₁
  replace hl := hl.mono k₁
  replace hod := k₁ _ _ hod
  clear hlb hyb
  walk_at "go"
  refine l_len S (hLb.mono S.base) (by (first | lia | omega)) ?_; clear S; intro t s S
  walk_at "go"
  refine i_eq (fun q => ?_) (fun q => ?_)
  · walk_at "go"
    refine l_new S (by simp) ?_; clear S; intro lw s S _
    walk_at "go"
    exact h lw _ _ [] s (k₁.none ((S.led (lw, _) (List.mem_cons_self ..)).2.2.2 rfl)) (S.atLed (List.mem_cons_self ..)) .nil Gon.nil (by simp) (S.outs k₁)
  walk_at "go"
  refine cell_at_spec (S.gr G) (R.in_ (by decide)) (hl.mono S.base) hn (by (first | lia | omega)) ?_
  walk_at "kpt"
  walk_at "go"
  refine l_len S (hLb.mono S.base) (by (first | lia | omega)) ?_; clear S; intro t s S
  walk_at "go"
  have hpos : (0 : Int) < ((bareL m (cellsL rows wd)).length : Int) := by (first | lia | omega)
  have e1 := Int.emod_nonneg (cellAt ns 3) (Int.ne_of_gt hpos)
  have e2 := Int.emod_lt_of_pos (cellAt ns 3) hpos
  refine l_at (hLb.mono S.base) e1 e2 (by (first | lia | omega)) (by rfl) ?_
  intro t
  have hcm : (bareL m (cellsL rows wd)).getD (cellAt ns 3 % (bareL m (cellsL rows wd)).length).toNat 0 ∈ bareL m (cellsL rows wd) := getD_mem (by (first | lia | omega))
  generalize (bareL m (cellsL rows wd)).getD (cellAt ns 3 % (bareL m (cellsL rows wd)).length).toNat 0 = c0 at hcm S ⊢
  obtain ⟨hc1, hc2⟩ := List.mem_filter.mp hcm
  have hcb : hasB rows wd c0 = true := by rw [← cells_mem]; exact decide_eq_true hc1
  have hcn : mget m c0 = none := by simpa using hc2
  walk_at "go"
  refine l_new S (by simp) ?_; clear S; intro lw s S _
  walk_at "go"
  refine r_range S ?_; clear S; intro r t1 t2 t3 s hr' S
  refine it_range S R.handled hr' (by (first | lia | omega)) (by (first | lia | omega)) ?_
  clear S
  intro it s I
  refine loop_it (fun i ρ Λ => ∃ a b yw kw W, ρ = [(Str.ofString "_law_rows_here", some (.ref lr)), (Str.ofString "_law_over_here", some (.ref d)), (Str.ofString "_law_script", some (.ref l)), (Str.ofString "_law_cells_here", some (.ref lb)), (Str.ofString "_law_way", some (.ref lw)), (Str.ofString "_law_k", a), (Str.ofString "_law_near", b)] ∧ Λ = [(lw, lst yw kw)] ∧ IntsAre yw.toList W ∧ Gon (mayB rows wd) (hasB rows wd) m W ∧ 0 < W.length ∧ W.length ≤ 2 * i + 1) I (jI5 _ _ _ _ ([c0]) rfl rfl ⟨.cons _ _ .nil, Gon.one hcb hcn, Nat.zero_lt_one, Nat.le_refl _⟩) ?_ ?_ ?_
  · intro i ρ' Λ' hJx; exact jE5 hJx fun _ _ _ _ _ _ e _ => by rw [e]; rfl
  · rintro i v ρ₁ Λ₁ hi1 ⟨tk, rfl⟩ hJx
    refine jE5 hJx ?_
    clear hJx
    rintro a b yw kw W rfl rfl ⟨hyw, w1, hw0, hwl⟩
    have hwm : W.getD (W.length - 1) 0 ∈ W := getD_mem (by (first | lia | omega))
    have hwla : W.getLast? = some (W.getD (W.length - 1) 0) := by
      rw [List.getLast?_eq_getElem?, List.getD_eq_getElem?_getD, List.getElem?_eq_getElem (by (first | lia | omega))]; rfl
    have hcb2 := w1.cel _ hwm
    generalize W.getD (W.length - 1) 0 = la at hwm hwla hcb2
    have elast : W.getD (W.length - 1) 0 = la := by
      rw [List.getLast?_eq_getElem?] at hwla
      rw [List.getD_eq_getElem?_getD, hwla]; rfl
    have hb4 := beside_len rows wd la
    have hys : yw.size = W.length := by rw [← hyw.length, Array.length_toList]
    refine ⟨_, .tail (.tail (.tail (.tail (.tail .head)))), ?_⟩
    walk_at "turn"
    replace hr := hr.mono k
    replace hl := hl.mono k
    replace hod := k _ _ hod
    clear k
    walk_at "go"
    refine' x_lc [(Str.ofString "_law_way", some (.ref lw))] (onI (fun c => !decide (c ∈ W))) (FII id) ?z_sw S ?z_ok ?z_hy ?z_ek ?z_sel ?_ ?z_hs
    case z_sw => rfl
    case z_ok => kernel_rfl
    case z_hy => kernel_rfl
    case z_ek => rfl
    case z_sel => exact Sel.cons (by walk_at "lk") Sel.nil
    case z_hs => intro _; rfl
    walk_at "go"
    refine l_last (IntL.of (S.atLed (List.mem_cons_self ..)) hyw) (by (first | lia | omega)) (by (first | lia | omega)) (by rfl) ?_
    intro t
    rw [elast]
    walk_at "go"
    refine lbeside_spec (S.gr G) (R.in_ (by decide)) (hr.mono S.base) g hcb2 ?_
    intro lb' yb' kb' s' hD hD' hi hk
    have hno : ¬ CS.own _ [(lw, lst yw kw)] lb' := fun q => by obtain ⟨o, e⟩ := S.own_at q; rw [hD] at e; cases e
    replace S := CS.keeps S hk; clear hk
    have hyb' : yb'.size = (besideL rows wd la).length := by rw [← hi.length, Array.length_toList]
    refine it_listN S R.handled hD' hno ?_
    intro it s I
    refine comp_it I (by (first | lia | omega)) ?_ ?_ ?_
    · intro C i v s E' hlt hv S
      refine jY2 (hi.at i v (by simpa using hv)) ?_
      rintro c tc rfl hc
      refine tests1 ?_
      walk_at "go"
      refine l_notin (IntL.of (S.atLed (List.mem_cons_self ..)) hyw) ?_
      walk_at "go"
      exact ⟨rfl, S.quiet⟩
    · intro C i v s E' hlt hv hp S
      refine jY2 (hi.at i v (by simpa using hv)) ?_
      rintro c tc rfl hc
      walk_at "go"
      exact ⟨⟨_, _, _, rfl, rfl⟩, S.quiet⟩
    intro ln kn yn vs p1 p2 p3 hDn
    refine ⟨_, by walk_at "pt", fun s S => ?_⟩
    have hv := vs_list p1 p2
    subst hv
    have hyn := pairII (filtI hi) p3
    rw [List.map_id] at hyn
    have hnl : ((besideL rows wd la).filter fun c => !decide (c ∈ W)).length ≤ 4 := Nat.le_trans (List.length_filter_le ..) hb4
    clear I p1 p2 p3 hDn hno hD hD' hi
    walk_at "go"
    refine l_len S (IntL.of (S.atLed (List.mem_cons_self ..)) hyn) (by (first | lia | omega)) ?_; clear S; intro t s S
    walk_at "go"
    refine i_dec (fun q1 => ?_) (fun q1 => ?_)
    · walk_at "go"
      refine cell_at_spec (S.gr G) (R.in_ (by decide)) (hl.mono S.base) hn (by (first | lia | omega)) ?_
      walk_at "kpt"
      walk_at "go"
      refine i_dec (fun q2 => ?_) (fun q2 => ?_)
      · walk_at "go"
        refine l_len S (IntL.of (S.atLed (List.mem_cons_of_mem _ (List.mem_cons_self ..))) hyw) (by (first | lia | omega)) ?_; clear S; intro t s S
        walk_at "go"
        refine i_eq (fun q3 => ?_) (fun q3 => ?_)
        · walk_at "go"
          refine number_spec (S.gr G) (R.in_ (by decide)) (hl.mono S.base) hn (by (first | lia | omega)) ?_
          intro n t s' hn0 hk; replace S := CS.keeps S hk; clear hk
          walk_at "go"
          refine l_len S (IntL.of (S.atLed (List.mem_cons_self ..)) hyn) (by (first | lia | omega)) ?_; clear S; intro t s S
          walk_at "go"
          have f1 := Int.emod_nonneg (n / 7) (Int.ne_of_gt q1)
          have f2 := Int.emod_lt_of_pos (n / 7) q1
          refine l_at (IntL.of (S.atLed (List.mem_cons_self ..)) hyn) f1 f2 (by (first | lia | omega)) (by rfl) ?_
          intro t
          have hom := getD_mem (d := 0) (show (n / 7 % (((besideL rows wd la).filter fun c => !decide (c ∈ W)).length : Int)).toNat < ((besideL rows wd la).filter fun c => !decide (c ∈ W)).length by (first | lia | omega))
          generalize ((besideL rows wd la).filter fun c => !decide (c ∈ W)).getD (n / 7 % (((besideL rows wd la).filter fun c => !decide (c ∈ W)).length : Int)).toNat 0 = o at hom S ⊢
          obtain ⟨o1, o2⟩ := List.mem_filter.mp hom
          have hmay := mem_beside.mp o1
          have hoW : o ∉ W := by simpa using o2
          have ho2 := (mayB_has hmay).2
          have hodd : W.length % 2 = 1 := by (first | lia | omega)
          walk_at "go"
          refine l_append S (by walk_at "cf") (by (first | lia | omega)) ?_; clear S; intro k' s S
          have hyw' : IntsAre (yw.push (.int o t)).toList (W ++ [o]) := by rw [Array.toList_push]; exact ints_snoc hyw _ _
          have el1 : (W ++ [o]).getD ((W ++ [o]).length - 1) 0 = o := by simp
          have el2 : (W ++ [o]).length = W.length + 1 := by simp
          walk_at "go"
          refine l_last (IntL.of (S.atLed (List.mem_cons_of_mem _ (List.mem_cons_self ..))) hyw') (by (first | lia | omega)) (by (first | lia | omega)) (by rfl) ?_
          intro t
          rw [el1]
          walk_at "go"
          refine d_in S (S.atBase hod) D hds ?_; clear S; intro s S
          cases hv : mget m o with
          | none =>
            (first | with_reducible refine jNt ?_ | with_reducible refine jNn ?_ | rw [Option.isSome_none])
            walk_at "go"
            exact hNx _ _ _ _ (Sub.refl _) (S.tl rfl) (jI5 _ _ _ _ _ rfl rfl ⟨hyw', w1.bare hodd hwla hmay hoW hv ho2, by (first | lia | omega), by (first | lia | omega)⟩)
          | some v =>
            (first | with_reducible refine jSt ?_ | with_reducible refine jSn ?_ | rw [Option.isSome_some])
            walk_at "go"
            refine l_last (IntL.of (S.atLed (List.mem_cons_of_mem _ (List.mem_cons_self ..))) hyw') (by (first | lia | omega)) (by (first | lia | omega)) (by rfl) ?_
            intro t
            rw [el1]
            walk_at "go"
            refine d_at S (S.atBase hod) D hv (by rfl) ?_; clear S; intro vx s hvx S
            refine jY1 hvx ?_
            rintro tx rfl
            walk_at "go"
            refine l_append S (by walk_at "cf") (by rw [Array.size_push]; (first | lia | omega)) ?_; clear S; intro k' s S
            walk_at "go"
            have hv2 := (mayB_has (M.inv o v hv).2).2
            exact hNx _ _ _ _ (Sub.refl _) (S.tl rfl) (jI5 _ _ _ _ _ rfl rfl ⟨by rw [Array.toList_push]; exact ints_snoc hyw' _ _, w1.cov gg M hodd hwla hmay hoW hv ho2 hv2, by simp, by simp; (first | lia | omega)⟩)
        · walk_at "go"
          exact hNx _ _ _ _ (Sub.refl _) (S.tl rfl) (jI5 _ _ _ _ _ rfl rfl ⟨hyw, w1, hw0, by (first | lia | omega)⟩)
      · walk_at "go"
        exact hNx _ _ _ _ (Sub.refl _) (S.tl rfl) (jI5 _ _ _ _ _ rfl rfl ⟨hyw, w1, hw0, by (first | lia | omega)⟩)
    · walk_at "go"
      exact hNx _ _ _ _ (Sub.refl _) (S.tl rfl) (jI5 _ _ _ _ _ rfl rfl ⟨hyw, w1, hw0, by (first | lia | omega)⟩)
  clear I
  rintro ρ' Λ' s hJx
  refine jE5 hJx ?_
  clear hJx
  rintro a b yw kw W rfl rfl ⟨hyw, w1, hw0, hwl⟩ S
  walk_at "go"
  have hwl' : W.length ≤ 40 := by
    have : (15 : Int).toNat = 15 := rfl
    (first | lia | omega)
  exact h lw yw kw W s (k₁.none ((S.led (lw, _) (List.mem_cons_self ..)).2.2.2 rfl)) (S.atLed (List.mem_cons_self ..)) hyw w1 hwl' (S.outs k₁)


theorem turnedG_spec {w : World} {A : Around} {s : Shared} {Q E : Value → Shared → Prop} {ly fl l d lw : Addr} {od : Obj} {m : Mp Int} {rows : List Str} {wd : Nat} {t1 t2 : Tok} {yw : Array Value} {kw : Nat} {W : List Int} (G : Gr (Fl.kH w.params) s.heap) (R : Room A 8) (F : FloorAt 189 s.heap fl l rows wd t1 t2) (Y : LayO s.heap ly fl d) (hod : s.heap.get? d = some od) (D : DG PP w RInt od m) (hds : (d == sysModules) = false) (M : LayM (mayB rows wd) m) (h64 : (cellsL rows wd).length ≤ 200)
    (hlw : s.heap.get? lw = some (lst yw kw)) (hyw : IntsAre yw.toList W) (nd : W.Nodup) (cl : ∀ x ∈ W, ∀ v, mget m x = some v → v ∈ W) (two : ∀ i a b, W[2 * i]? = some a → W[2 * i + 1]? = some b → mayB rows wd a b = true) (hPl : W.length ≤ 1000)
    (h : ∀ ly' dx o2 d' od' m' s', LayP s'.heap ly' dx o2 fl d' → s.heap.get? ly' = none → s.heap.get? dx = none → ly' ≠ d' → dx ≠ d' → DG PP w RInt od' m' → Onv (mayB rows wd) m W (W.length / 2) m' → s.heap.get? d' = none → s'.heap.get? d' = some od' → (d' == sysModules) = false → Keeps s s' → Q (.ref ly') s') : wpAny (model PP w) A (call (.ref 28) [.ref ly, .ref lw]) Q E s := by
  refine' callP [(Str.ofString "laying", some (.ref ly)), (Str.ofString "way", some (.ref lw)), (Str.ofString "made", none), (Str.ofString "cell", none), (Str.ofString "k", none)] G (by walk_at "room") ?z_ho ?z_hcd ?z_hbind ?z_hd ?z_hb1 ?z_hb2 ?z_hρ ?_
  walk_at "enter"
  intro L s S
  have g := gph F.grid
  have hW : ∀ x ∈ W, x ∈ W := fun x hx => hx
  have hm64 := lay_len M
  walk_at "go"
  refine copied_spec (S.gr G) (R.in_ (by decide)) (F.mono S.base) (ObjAt.mono Y S.base) (S.atBase hod) D hds M (by (first | lia | omega)) ?_
  intro ly' dx o2 d' od0 m0 s' P₀ n1 n2 ne1 ne2 D0 M0 ext _ hd' hd'' hds' hk
  obtain ⟨h₁, k₁, S', hall⟩ := S.adoptW hk hd' hd''
  have n1' := S.base.none n1
  have n2' := S.base.none n2
  have n3' := S.base.none hd'
  replace S := S'
  clear S'
  have P₁ : LayP h₁ ly' dx o2 fl d' := ⟨hall _ _ n1 ne1 P₀.a1, hall _ _ n2 ne2 P₀.a2, P₀.lk⟩
  clear P₀ hall hk Y
  replace G := G.mono k₁
  replace F := F.mono k₁
  have Y := P₁.obj
  have hlw₁ := k₁ _ _ hlw
  walk_at "go"
  refine it_list S R.handled hlw₁ rfl ⟨_, rfl⟩ ?_
  clear S
  intro it s I
  refine loop_it (fun i ρ Λ => ∃ a od1 m1, ρ = [(Str.ofString "laying", some (.ref ly)), (Str.ofString "way", some (.ref lw)), (Str.ofString "made", some (.ref ly')), (Str.ofString "cell", a), (Str.ofString "k", none)] ∧ Λ = [(d', od1)] ∧ DG PP w RInt od1 m1 ∧ Off (mayB rows wd) m W W i m1) I (jI3 _ _ _ rfl rfl ⟨D0, M0, fun x _ => ext x, fun x hx => by simp at hx⟩) ?_ ?_ ?_
  · intro i ρ' Λ' hJx; exact jE3 hJx fun _ _ _ _ e _ => by rw [e]; rfl
  · rintro i v ρ₁ Λ₁ hi1 hv hJx
    refine jE3 hJx ?_
    clear hJx
    rintro a od1 m1 rfl rfl ⟨D1, O1⟩
    refine jY2 (hyw.at i v (by simpa using hv)) ?_
    rintro x tx rfl hx
    have hl1 := lay_len O1.lay
    refine ⟨_, .tail (.tail (.tail .head)), ?_⟩
    walk_at "turn"
    replace F := F.mono k
    replace Y := ObjAt.mono Y k
    clear k
    walk_at "go"
    refine d_in S (S.atLed (List.mem_cons_self ..)) D1 hds' ?_; clear S; intro s S
    cases hv : mget m1 x with
    | none =>
      (first | with_reducible refine jNt ?_ | with_reducible refine jNn ?_ | rw [Option.isSome_none])
      walk_at "go"
      exact hNx _ _ _ _ (Sub.refl _) S (jI3 _ _ _ rfl rfl ⟨D1, O1.next hx hv⟩)
    | some u =>
      (first | with_reducible refine jSt ?_ | with_reducible refine jSn ?_ | rw [Option.isSome_some])
      walk_at "go"
      refine lift_spec S.base ((S.led (d', od1) (List.mem_cons_self ..)).2.2.2 rfl) G (R.in_ (by decide)) F Y (S.atLed (List.mem_cons_self ..)) D1 hds' O1.lay hv (by (first | lia | omega)) ?_
      intro od2 s' D2 up
      replace S := S.upd (by walk_at "cf") up
      walk_at "go"
      exact hNx _ _ _ _ (Sub.refl _) S (jI3 _ _ _ rfl rfl ⟨D2, O1.lift M cl hW hx hv⟩)
  clear I
  rintro ρ' Λ' s hJx
  refine jE3 hJx ?_
  clear hJx
  rintro a od1 m1 rfl rfl ⟨D1, O1⟩ S
  have hyl : yw.size = W.length := by rw [← hyw.length, Array.length_toList]
  rw [hyl] at O1
  have hI := IntL.of hlw₁ hyw
  walk_at "go"
  refine l_len S (hI.mono S.base) (by (first | lia | omega)) ?_; clear S; intro t s S
  walk_at "go"
  have hdiv : (W.length : Int) / 2 = ((W.length / 2 : Nat) : Int) := by (first | lia | omega)
  rw [hdiv]
  refine r_range S ?_; clear S; intro r t1 t2 t3 s hr' S
  refine it_range S R.handled hr' (by (first | lia | omega)) (by (first | lia | omega)) ?_
  clear S
  intro it s I
  refine loop_it (fun i ρ Λ => ∃ a b od1 m1, ρ = [(Str.ofString "laying", some (.ref ly)), (Str.ofString "way", some (.ref lw)), (Str.ofString "made", some (.ref ly')), (Str.ofString "cell", a), (Str.ofString "k", b)] ∧ Λ = [(d', od1)] ∧ DG PP w RInt od1 m1 ∧ Onv (mayB rows wd) m W i m1) I (jI4 _ _ _ _ rfl rfl ⟨D1, O1.onv⟩) ?_ ?_ ?_
  · intro i ρ' Λ' hJx; exact jE4 hJx fun _ _ _ _ _ e _ => by rw [e]; rfl
  · rintro i v ρ₁ Λ₁ hi1 ⟨tr, rfl⟩ hJx
    refine jE4 hJx ?_
    clear hJx
    rintro a b od1 m1 rfl rfl ⟨D1, O1⟩
    have hik : i < W.length / 2 := by (first | lia | omega)
    obtain ⟨pa, hpa⟩ : ∃ x, W[2 * i]? = some x := ⟨_, List.getElem?_eq_getElem (by (first | lia | omega))⟩
    obtain ⟨pb, hpb⟩ : ∃ x, W[2 * i + 1]? = some x := ⟨_, List.getElem?_eq_getElem (by (first | lia | omega))⟩
    have hmay := two i pa pb hpa hpb
    have hl1 := lay_len O1.lay
    have O2 := O1.put g nd hpa hpb hmay
    have ea : W.getD (2 * (i : Int)).toNat 0 = pa := by rw [show (2 * (i : Int)).toNat = 2 * i by (first | lia | omega), List.getD_eq_getElem?_getD, hpa]; rfl
    have eb : W.getD (2 * (i : Int) + 1).toNat 0 = pb := by rw [show (2 * (i : Int) + 1).toNat = 2 * i + 1 by (first | lia | omega), List.getD_eq_getElem?_getD, hpb]; rfl
    refine ⟨_, .tail (.tail (.tail (.tail .head))), ?_⟩
    walk_at "turn"
    replace F := F.mono k
    replace Y := ObjAt.mono Y k
    have hI2 := hI.mono k
    clear k
    walk_at "go"
    refine l_at (hI2.mono S.base) (by (first | lia | omega)) (by (first | lia | omega)) (by (first | lia | omega)) (by rfl) ?_
    intro ta
    rw [ea]
    walk_at "go"
    refine l_at (hI2.mono S.base) (by (first | lia | omega)) (by (first | lia | omega)) (by (first | lia | omega)) (by rfl) ?_
    intro tb
    rw [eb]
    walk_at "go"
    refine put_spec S.base ((S.led (d', od1) (List.mem_cons_self ..)).2.2.2 rfl) G (R.in_ (by decide)) F Y (S.atLed (List.mem_cons_self ..)) D1 hds' hmay (O1.off _ _ (Nat.le_refl _) hpa) (O1.off _ _ (by (first | lia | omega)) hpb) (by (first | lia | omega)) ?_
    intro od2 s' D2 up
    replace S := S.upd (by walk_at "cf") up
    walk_at "go"
    exact hNx _ _ _ _ (Sub.refl _) S (jI4 _ _ _ _ rfl rfl ⟨D2, O2⟩)
  clear I
  rintro ρ' Λ' s hJx
  refine jE4 hJx ?_
  clear hJx
  rintro a b od1 m1 rfl rfl ⟨D1, O1⟩ S
  rw [Int.toNat_natCast] at O1
  walk_at "go"
  exact h ly' dx o2 d' od1 m1 s (P₁.mono S.base) n1' n2' ne1 ne2 D1 O1 n3' (S.atLed (List.mem_cons_self ..)) hds' (S.outs k₁)


theorem Onv.base {may : Int → Int → Bool} {m m₀ m' : Mp Int} {W : List Int} {i : Nat} (o : Onv may m W i m') (ext : ∀ x, mget m x = mget m₀ x) : Onv may m₀ W i m' := ⟨o.lay, fun x hx => (o.out x hx).trans (ext x), o.off, o.on⟩
def AltC (s₀ : Shared) (env : Env) (s : Shared) (P : Heap → Rho → List (Addr × Obj) → Prop) : Prop := ∃ hb ρ Λ, CS true s₀ hb env ρ Λ s ∧ P hb ρ Λ
theorem CS.alt {s₀ s : Shared} {h₀ : Heap} {env : Env} {ρ : Rho} {Λ : List (Addr × Obj)} (_ : CS true s₀ h₀ env ρ Λ s) (P : Heap → Rho → List (Addr × Obj) → Prop) (h : AltC s₀ env s P) : AltC s₀ env s P := h
theorem law_spec {w : World} {A : Around} {s : Shared} {R' : Result → Shared → Prop} {l : Addr} {ns : List Int} (hfr : A.frames = some []) (G : Gr (Fl.kH w.params) s.heap) (R : Room A 40) (hl : IntL s.heap l ns) (hn : ns.length ≤ 63)
    (h : ∀ s', Keeps s s' → R' (.ok (.ret (.bool true))) s') : codeAny (model PP w) A (.call (.ref 354) ⟨[.ref l], []⟩) R' s := by
  refine' callC [(Str.ofString "_law_script", some (.ref l)), (Str.ofString "_law_rows_here", none), (Str.ofString "_law_over_here", none), (Str.ofString "_law_floor", none), (Str.ofString "_law_laying", none), (Str.ofString "_law_way", none), (Str.ofString "_law_due", none), (Str.ofString "_law_cell", none), (Str.ofString "_law_k", none), (Str.ofString "_law_handed", none), (Str.ofString "_law_found", none), (Str.ofString "_law_one", none), (Str.ofString "_law_other", none), (Str.ofString "_law_kept", none), (Str.ofString "_law_slab", none)] G (by walk_at "room") ?z_ho ?z_hcd ?z_hbind ?z_hd ?z_hb1 ?z_hb2 ?z_hρ ?_
  walk_at "enter"
  intro L s S
  walk_at "go"
  refine rows_spec (S.gr G) (R.in_ (by decide)) (hl.mono S.base) hn ?_
  intro lr ys ky rows wd s' hD hD' hys g hk
  walk_at "gnew"
  have B : Sub _ h₁ := k
  replace hl := hl.mono k
  have hoR := hN _ _ hD hD'
  have hr : StrL h₁ lr rows := StrL.of hoR hys
  clear hk hN k hD hD'
  have hh := g.high
  have hww := g.wide
  have hysz : ys.size = rows.length := by rw [← hys.length, Array.length_toList]
  obtain ⟨hl1, hl2⟩ := len_wd g
  have hcl := cells_len rows wd
  have gg := gph g
  walk_at "go"
  refine cell_at_spec (S.gr G) (R.in_ (by decide)) (hl.mono S.base) hn (by (first | lia | omega)) ?_
  walk_at "kpt"
  walk_at "go"
  refine over_spec (S.gr G) (R.in_ (by decide)) (hr.mono S.base) g (hl.mono S.base) hn (by (first | lia | omega)) (by (first | lia | omega)) ?_
  intro d od m s' hD hD' hds D M hk
  walk_at "gnew"
  replace B := B.trans k
  replace hl := hl.mono k
  replace hr := hr.mono k
  replace hoR := k _ _ hoR
  have hod := hN _ _ hD hD'
  clear hk hN k hD hD'
  have hml := lay_len M
  walk_at "go"
  refine l_copy S (S.atBase hoR) rfl rfl (by (first | lia | omega)) ?_; clear S; intro lh c s S _
  walk_at "go"
  refine floor_spec (S.gr G) (R.in_ (by decide)) (StrL.of (S.atLed (by walk_at "mm")) hys) g ?_
  intro fl l' t1 t2 s' hF _ hk
  refine jX3 (CS.gnew S hk) ?_
  clear S
  intro h3 k S hN
  replace G := G.mono k
  replace B := B.trans k
  replace hl := hl.mono k
  replace hr := hr.mono k
  replace hod := k _ _ hod
  have F := hF h3 hN
  clear hk hN k hF hoR
  replace S := S.tl rfl
  walk_at "go"
  refine made_spec (S.gr G) (R.in_ (by decide)) (F.mono S.base) (S.atBase hod) D hds M ?_
  intro ly dx o2 d' od' m' s' P n1 n2 ne1 ne2 D' M' ext hd' hd'' hds' hk
  have G3 := G
  have F3 := F
  have B3 := B
  have zd' : h3.get? d' = none := S.base.none hd'
  refine jX3 (CS.gnew S hk) ?_
  clear S
  intro h4 k4 S hN
  have P₁ : LayP h4 ly dx o2 fl d' := ⟨hN _ _ n1 P.a1, hN _ _ n2 P.a2, P.lk⟩
  have hod' := hN _ _ hd' hd''
  clear P hN hk n1 n2 hd' hd''
  replace G := G.mono k4
  replace B := B.trans k4
  replace hl := hl.mono k4
  replace hr := hr.mono k4
  replace hod := k4 _ _ hod
  replace F := F.mono k4
  have hml' := lay_len M'
  walk_at "go"
  refine gone_spec (S.gr G) (R.in_ (by decide)) (hr.mono S.base) g (S.atBase hod) D hds M (hl.mono S.base) hn ?_
  intro lw yw kw W s' hD hD' hyw w1 hwl hk
  refine jX3 (CS.gnew S hk) ?_
  clear S
  intro h5 k5 S hN
  have hlw := hN _ _ hD hD'
  clear hN hk hD hD'
  replace G := G.mono k5
  replace B := B.trans k5
  replace hl := hl.mono k5
  replace hr := hr.mono k5
  replace hod := k5 _ _ hod
  replace hod' := k5 _ _ hod'
  replace F := F.mono k5
  replace P₁ := P₁.mono k5
  have hws : yw.size = W.length := by rw [← hyw.length, Array.length_toList]
  have hI : IntL h5 lw W := IntL.of hlw hyw
  walk_at "go"
  have hbig := big_heap (S.gr G)
  refine d_copy S (S.atBase hod) D hds (by (first | lia | omega)) ?_; clear S; intro dd odd s Dd S hdd hdq
  have hdsd := not_mods (hdq ▸ hbig)
  clear hdd hdq
  walk_at "go"
  refine it_list S R.handled hlw rfl ⟨_, rfl⟩ ?_
  clear S
  intro it s I
  refine loop_it (fun i ρ Λ => ∃ a od1 m1, ρ = [(Str.ofString "_law_script", some (.ref l)), (Str.ofString "_law_rows_here", some (.ref lr)), (Str.ofString "_law_over_here", some (.ref d)), (Str.ofString "_law_floor", some (.ref fl)), (Str.ofString "_law_laying", some (.ref ly)), (Str.ofString "_law_way", some (.ref lw)), (Str.ofString "_law_due", some (.ref dd)), (Str.ofString "_law_cell", a), (Str.ofString "_law_k", none), (Str.ofString "_law_handed", none), (Str.ofString "_law_found", none), (Str.ofString "_law_one", none), (Str.ofString "_law_other", none), (Str.ofString "_law_kept", none), (Str.ofString "_law_slab", none)] ∧ Λ = [(dd, od1)] ∧ DG PP w RInt od1 m1 ∧ Off (mayB rows wd) m W W i m1) I (jI3 _ _ _ rfl rfl ⟨Dd, M, fun _ _ => rfl, fun x hx => by simp at hx⟩) ?_ ?_ ?_
  · intro i ρ' Λ' hJx; exact jE3 hJx fun _ _ _ _ e _ => by rw [e]; rfl
  · rintro i v ρ₁ Λ₁ hi1 hv hJx
    refine jE3 hJx ?_
    clear hJx
    rintro a od1 m1 rfl rfl ⟨D1, O1⟩
    refine jY2 (hyw.at i v (by simpa using hv)) ?_
    rintro x tx rfl hx
    have hl1 := lay_len O1.lay
    refine ⟨_, .tail (.tail (.tail (.tail (.tail (.tail (.tail .head)))))), ?_⟩
    walk_at "turn"
    clear k
    walk_at "go"
    refine d_in S (S.atLed (List.mem_cons_self ..)) D1 hdsd ?_; clear S; intro s S
    cases hv : mget m1 x with
    | none =>
      (first | with_reducible refine jNt ?_ | with_reducible refine jNn ?_ | rw [Option.isSome_none])
      walk_at "go"
      exact hNx _ _ _ _ (Sub.refl _) S (jI3 _ _ _ rfl rfl ⟨D1, O1.next hx hv⟩)
    | some u =>
      (first | with_reducible refine jSt ?_ | with_reducible refine jSn ?_ | rw [Option.isSome_some])
      obtain ⟨hux, hmay⟩ := O1.lay.inv x u hv
      have hxne : u ≠ x := Ne.symm (gg.ne hmay)
      walk_at "go"
      refine m_dict (S.atLed (List.mem_cons_self ..)) D1 PySem.F.slot_dict_pop PySem.F.type_dict_pop ?_
      walk_at "go"
      refine m_dict (S.atLed (List.mem_cons_self ..)) D1 PySem.F.slot_dict_pop PySem.F.type_dict_pop ?_
      walk_at "go"
      refine d_pop S (by walk_at "cf") D1 hv (by (first | lia | omega)) ?_; clear S; intro vx od4 s hvx D4 S
      refine jY1 hvx ?_
      rintro ty rfl
      have hx2 : mget (mdel m1 x) u = some x := by rw [mget_mdel, if_neg hxne]; exact hux
      have hdl := mdel_len m1 x
      walk_at "go"
      refine d_pop S (by walk_at "cf") D4 hx2 (by (first | lia | omega)) ?_; clear S; intro vy od5 s hvy D5 S
      walk_at "go"
      exact hNx _ _ _ _ (Sub.refl _) S (jI3 _ _ _ rfl rfl ⟨D5, O1.lift M w1.cl (fun _ q => q) hx hv⟩)
  clear I
  rintro ρ' Λ' s hJx
  refine jE3 hJx ?_
  clear hJx
  rintro a1 od1 m1 rfl rfl ⟨D1, O1⟩ S
  rw [hws] at O1
  walk_at "go"
  refine l_len S (hI.mono S.base) (by (first | lia | omega)) ?_; clear S; intro t s S
  walk_at "go"
  refine r_range2 S (by (first | lia | omega)) (by (first | lia | omega)) ?_; clear S; intro r u1 u2 u3 s hr' S
  refine it_range2 (c := W.length / 2) S R.handled hr' (by (first | lia | omega)) (by (first | lia | omega)) (by split <;> (first | lia | omega)) ?_
  clear S
  intro it s I
  refine loop_it (fun i ρ Λ => ∃ b od1 m1, ρ = [(Str.ofString "_law_script", some (.ref l)), (Str.ofString "_law_rows_here", some (.ref lr)), (Str.ofString "_law_over_here", some (.ref d)), (Str.ofString "_law_floor", some (.ref fl)), (Str.ofString "_law_laying", some (.ref ly)), (Str.ofString "_law_way", some (.ref lw)), (Str.ofString "_law_due", some (.ref dd)), (Str.ofString "_law_cell", a1), (Str.ofString "_law_k", b), (Str.ofString "_law_handed", none), (Str.ofString "_law_found", none), (Str.ofString "_law_one", none), (Str.ofString "_law_other", none), (Str.ofString "_law_kept", none), (Str.ofString "_law_slab", none)] ∧ Λ = [(dd, od1)] ∧ DG PP w RInt od1 m1 ∧ Onv (mayB rows wd) m W i m1) I (jI3 _ _ _ rfl rfl ⟨D1, O1.onv⟩) ?_ ?_ ?_
  · intro i ρ' Λ' hJx; exact jE3 hJx fun _ _ _ _ e _ => by rw [e]; rfl
  · rintro i v ρ₁ Λ₁ hi1 ⟨tr, rfl⟩ hJx
    refine jE3 hJx ?_
    clear hJx
    rintro b od2 m2 rfl rfl ⟨D2, O2⟩
    obtain ⟨pa, hpa⟩ : ∃ x, W[2 * i]? = some x := ⟨_, List.getElem?_eq_getElem (by (first | lia | omega))⟩
    obtain ⟨pb, hpb⟩ : ∃ x, W[2 * i + 1]? = some x := ⟨_, List.getElem?_eq_getElem (by (first | lia | omega))⟩
    have hmay := w1.two i pa pb hpa hpb
    have hl2 := lay_len O2.lay
    have O3 := O2.put gg w1.nd hpa hpb hmay
    have ea : W.getD (2 * (i : Int)).toNat 0 = pa := by rw [show (2 * (i : Int)).toNat = 2 * i by (first | lia | omega), List.getD_eq_getElem?_getD, hpa]; rfl
    have eb : W.getD (2 * (i : Int) + 1).toNat 0 = pb := by rw [show (2 * (i : Int) + 1).toNat = 2 * i + 1 by (first | lia | omega), List.getD_eq_getElem?_getD, hpb]; rfl
    refine ⟨_, .tail (.tail (.tail (.tail (.tail (.tail (.tail (.tail .head))))))), ?_⟩
    walk_at "turn"
    have hI2 := hI.mono k
    clear k
    have z1 := mput_len m2 pa pb
    walk_at "go"
    refine l_at (hI2.mono S.base) (by (first | lia | omega)) (by (first | lia | omega)) (by (first | lia | omega)) (by rfl) ?_
    intro ta
    rw [eb]
    walk_at "go"
    refine l_at (hI2.mono S.base) (by (first | lia | omega)) (by (first | lia | omega)) (by (first | lia | omega)) (by rfl) ?_
    intro tb
    rw [ea]
    walk_at "go"
    refine d_set (a := pb) S (by walk_at "cf") D2 ⟨_, rfl⟩ (by (first | lia | omega)) ?_; clear S; intro od3 s D3 S
    walk_at "go"
    refine l_at (hI2.mono S.base) (by (first | lia | omega)) (by (first | lia | omega)) (by (first | lia | omega)) (by rfl) ?_
    intro ta
    rw [ea]
    walk_at "go"
    refine l_at (hI2.mono S.base) (by (first | lia | omega)) (by (first | lia | omega)) (by (first | lia | omega)) (by rfl) ?_
    intro tb
    rw [eb]
    walk_at "go"
    refine d_set (a := pa) S (by walk_at "cf") D3 ⟨_, rfl⟩ (by (first | lia | omega)) ?_; clear S; intro od4 s D4 S
    walk_at "go"
    exact hNx _ _ _ _ (Sub.refl _) S (jI3 _ _ _ rfl rfl ⟨D4, O3⟩)
  clear I D1 O1 od1 m1
  rintro ρ' Λ' s hJx
  refine jE3 hJx ?_
  clear hJx
  rintro b1 odd md rfl rfl ⟨Dd, Od⟩ S
  walk_at "go"
  refine l_len S (hI.mono S.base) (by (first | lia | omega)) ?_; clear S; intro t s S
  walk_at "go"
  refine i_eq (fun q => ?_) (fun q => ?_)
  · walk_at "go"
    exact h _ (S.outs B)
  walk_at "go"
  refine l_copy S (S.atBase hlw) rfl rfl (by (first | lia | omega)) ?_; clear S; intro lh ch s S _
  walk_at "go"
  obtain ⟨h6a, k6a, hlh, S'⟩ := S.freeze
  obtain ⟨h6, k6b, hdd, S''⟩ := S'.freeze
  replace S := S''
  clear S' S''
  have k6 := k6a.trans k6b
  replace hlh := k6b _ _ hlh
  replace G := G.mono k6
  replace B := B.trans k6
  replace hl := hl.mono k6
  replace hr := hr.mono k6
  replace hod := k6 _ _ hod
  replace hod' := k6 _ _ hod'
  replace F := F.mono k6
  replace P₁ := P₁.mono k6
  replace hI := hI.mono k6
  have k36 := (k4.trans k5).trans k6
  clear k6 k6a k6b
  have Y := P₁.obj
  refine turnedG_spec (S.gr G) (R.in_ (by decide)) (F.mono S.base) (ObjAt.mono Y S.base) (S.atBase hod') D' hds' M' (by (first | lia | omega)) (S.atBase hlh) hyw w1.nd (fun x hx v hv => w1.cl x hx v (by rw [← ext]; exact hv)) w1.two (by (first | lia | omega)) ?_
  intro ly2 dx2 o22 d2 od2 m2 s' P2 a1' a2' ne3 ne4 D2 O2 b1' b2' hds2 hk
  have G6 := G
  have F6 := F
  have hr6 := hr
  have B6 := B
  have hl6 := hl
  have zd2 : h6.get? d2 = none := S.base.none b1'
  have y1 : d' ≠ ly2 := fun q => by rw [← q, S.atBase hod'] at a1'; cases a1'
  have y2 : d' ≠ dx2 := fun q => by rw [← q, S.atBase hod'] at a2'; cases a2'
  have y3 : d' ≠ d2 := fun q => by rw [← q, S.atBase hod'] at b1'; cases b1'
  refine jX3 (CS.gnew S hk) ?_
  clear S
  intro h7 k7 S hN
  have P₂ : LayP h7 ly2 dx2 o22 fl d2 := ⟨hN _ _ a1' P2.a1, hN _ _ a2' P2.a2, P2.lk⟩
  have hod2 := hN _ _ b1' b2'
  clear P2 hN hk a1' a2' b1' b2'
  have M2 := O2.lay
  have hml2 := lay_len M2
  have hsame := (O2.base ext).same Od rfl
  replace G := G.mono k7
  replace hl := hl.mono k7
  replace hr := hr.mono k7
  replace F := F.mono k7
  have Y1 := Y
  clear Y
  have Y := P₂.obj
  walk_at "go"
  refine y_own (S.gr G).X (ObjAt.mono Y S.base) (is_Laying w) ?_
  walk_at "go"
  refine f_ne (S.gr G).X (F.mono S.base).obj (cmp_Floor w) (by walk_at "room") ?_
  walk_at "go"
  refine lies_spec (S.gr G) (R.in_ (by decide)) (hr.mono S.base) g (S.atBase hod2) D2 hds2 M2 ?_
  walk_at "kp"
  walk_at "go"
  refine d_neF fl_int eqv_int (S.atBase hod2) D2 hds2 (S.atBase (k7 _ _ hdd)) Dd hdsd (by walk_at "room") hsame ?_
  walk_at "go"
  clear Y
  have Y := ObjAt.mono Y1 k7
  walk_at "go"
  refine d_neF fl_int eqv_int (S.atBase (k7 _ _ hod')) D' hds' (S.atBase (k7 _ _ hod)) D hds (by walk_at "room") ext ?_
  walk_at "go"
  refine l_ne (IntL.of (S.atBase (k7 _ _ hlh)) hyw) (hI.mono (k7.trans S.base)) (by walk_at "room") ?_
  (first | with_reducible refine jDt ?_ | with_reducible refine jDn ?_ | rw [decide_eq_true rfl])
  walk_at "go"
  obtain ⟨B', Λ₀, kB, S', cov⟩ := S.cov (fun _ h => nomatch h)
  have kX : Sub h6 (without B' (· = d2)) := sub_wo (k7.trans kB) zd2
  have P₂' : LayP (without B' (· = d2)) ly2 dx2 o22 fl d2 := ⟨without_get ne3 (kB _ _ P₂.a1), without_get ne4 (kB _ _ P₂.a2), P₂.lk⟩
  refine told_well_spec (G6.mono kX) (R.in_ (by decide)) (hr6.mono kX) (F6.mono kX) P₂'.obj (kB _ _ hod2) D2 hds2 M2 cov ((Stk.nil hfr S'.base).deeper S' (Sub.refl _) rfl) ?_
  intro od3 m3 s' D3 M3 ext3 ld
  replace S := S'.thaw (kB _ _ hod2)
  obtain ⟨Λ', x', S''⟩ := S.landD (fun _ h => nomatch h) D3.nf ld
  cases x'
  replace S := S''
  clear S'' S' ld
  clear G F hr hl Y P₂ B
  have G := G6.mono kX
  have F := F6.mono kX
  have hl := hl6.mono kX
  have B := B6.trans kX
  walk_at "gu"
  refine x_cutS S (fun ρ Λ => Λ = [(d2, od3)] ∧ (ρ = [(Str.ofString "_law_script", some (.ref l)), (Str.ofString "_law_rows_here", some (.ref lr)), (Str.ofString "_law_over_here", some (.ref d)), (Str.ofString "_law_floor", some (.ref fl)), (Str.ofString "_law_laying", some (.ref ly)), (Str.ofString "_law_way", some (.ref lw)), (Str.ofString "_law_due", some (.ref dd)), (Str.ofString "_law_cell", a1), (Str.ofString "_law_k", b1), (Str.ofString "_law_handed", some (.ref lh)), (Str.ofString "_law_found", some (.ref ly2)), (Str.ofString "_law_one", some (.ref ly2)), (Str.ofString "_law_other", some (.ref ly)), (Str.ofString "_law_kept", none), (Str.ofString "_law_slab", none)] ∨ ρ = [(Str.ofString "_law_script", some (.ref l)), (Str.ofString "_law_rows_here", some (.ref lr)), (Str.ofString "_law_over_here", some (.ref d)), (Str.ofString "_law_floor", some (.ref fl)), (Str.ofString "_law_laying", some (.ref ly)), (Str.ofString "_law_way", some (.ref lw)), (Str.ofString "_law_due", some (.ref dd)), (Str.ofString "_law_cell", a1), (Str.ofString "_law_k", b1), (Str.ofString "_law_handed", some (.ref lh)), (Str.ofString "_law_found", some (.ref ly2)), (Str.ofString "_law_one", some (.ref ly)), (Str.ofString "_law_other", some (.ref ly2)), (Str.ofString "_law_kept", none), (Str.ofString "_law_slab", none)])) ?_ ?_
  · intro Q' hQ
    walk_at "go"
    refine cell_at_spec (S.gr G) (R.in_ (by decide)) (hl.mono S.base) hn (by (first | lia | omega)) ?_
    walk_at "kpt"
    walk_at "go"
    refine i_eq (fun q => ?_) (fun q => ?_)
    · walk_at "go"
      exact hQ _ _ _ ⟨rfl, .inr rfl⟩ S
    · walk_at "go"
      exact hQ _ _ _ ⟨rfl, .inl rfl⟩ S
  clear S
  rintro ρ' Λ' s ⟨rfl, hρ⟩ S
  obtain ⟨hb, ρ', Λ', S', lyA, dxA, oA, dA, odA, mA, lyB, dxB, oB, dB, odB, mB, rfl, rfl, kb, PA, PB, hoB, DA, MA, hdA, DB, MB, hdB⟩ := CS.alt S (fun hb ρ Λ => ∃ lyA dxA oA dA odA mA lyB dxB oB dB odB mB, ρ = [(Str.ofString "_law_script", some (.ref l)), (Str.ofString "_law_rows_here", some (.ref lr)), (Str.ofString "_law_over_here", some (.ref d)), (Str.ofString "_law_floor", some (.ref fl)), (Str.ofString "_law_laying", some (.ref ly)), (Str.ofString "_law_way", some (.ref lw)), (Str.ofString "_law_due", some (.ref dd)), (Str.ofString "_law_cell", a1), (Str.ofString "_law_k", b1), (Str.ofString "_law_handed", some (.ref lh)), (Str.ofString "_law_found", some (.ref ly2)), (Str.ofString "_law_one", some (.ref lyA)), (Str.ofString "_law_other", some (.ref lyB)), (Str.ofString "_law_kept", none), (Str.ofString "_law_slab", none)] ∧ Λ = [(dA, odA)] ∧ Sub h3 hb ∧ LayP hb lyA dxA oA fl dA ∧ LayP hb lyB dxB oB fl dB ∧ hb.get? dB = some odB ∧ DG PP w RInt odA mA ∧ LayM (mayB rows wd) mA ∧ (dA == sysModules) = false ∧ DG PP w RInt odB mB ∧ LayM (mayB rows wd) mB ∧ (dB == sysModules) = false) (by
    rcases hρ with rfl | rfl
    · exact ⟨_, _, _, S, ly2, dx2, o22, d2, od3, m3, ly, dx, o2, d', od', m', rfl, rfl, k36.trans kX, P₂', P₁.mono kX, kX _ _ hod', D3, M3, hds2, D', M', hds'⟩
    · obtain ⟨h8, k8, hod8, S8⟩ := S.freeze
      have kZ : Sub h3 (without h8 (· = d')) := sub_wo ((k36.trans kX).trans k8) zd'
      have PA : LayP (without h8 (· = d')) ly dx o2 fl d' := ⟨without_get ne1 (k8 _ _ (P₁.mono kX).a1), without_get ne2 (k8 _ _ (P₁.mono kX).a2), P₁.lk⟩
      have PB : LayP (without h8 (· = d')) ly2 dx2 o22 fl d2 := ⟨without_get (Ne.symm y1) (k8 _ _ P₂'.a1), without_get (Ne.symm y2) (k8 _ _ P₂'.a2), P₂'.lk⟩
      exact ⟨_, _, _, S8.thaw (k8 _ _ (kX _ _ hod')), ly, dx, o2, d', od', m', ly2, dx2, o22, d2, od3, m3, rfl, rfl, kZ, PA, PB, without_get (Ne.symm y3) hod8, D', M', hds', D3, M3, hds2⟩)
  clear S hρ
  have S := S'
  clear S'
  clear G F B hl kX
  have G := G3.mono kb
  have F := F3.mono kb
  have B := B3.trans kb
  have Y := PB.obj
  have hmA := lay_len MA
  have hmB := lay_len MB
  walk_at "go"
  have hbig := big_heap (S.gr G)
  refine d_copy S (S.atBase hoB) DB hdB (by (first | lia | omega)) ?_; clear S; intro dk odk s Dk S hdk hdq
  have hdsk := not_mods (hdq ▸ hbig)
  clear hdk hdq
  walk_at "go"
  obtain ⟨h9, k9, hok, S'⟩ := S.freeze
  replace S := S'
  clear S' Y
  have Y := (PA.mono k9).obj
  replace G := G.mono k9
  replace F := F.mono k9
  replace B := B.trans k9
  walk_at "go"
  refine slabs_spec (rows := rows) (wd := wd) (S.gr G) (R.in_ (by decide)) (ObjAt.mono Y S.base) (S.atLed (List.mem_cons_self ..)) DA hdA MA (by (first | lia | omega)) ?_
  intro lx yx kx ks s' hD hD' hperm hsrt hxs hk
  refine jX3 (CS.gnew S hk) ?_
  clear S
  intro h10 k10 S hN
  have hLx : PairL h10 lx (slabsL mA ks) := PairL.newer hN (hN _ _ hD hD') hxs
  clear hN hk hD hD' hxs hsrt
  replace Y := ObjAt.mono Y k10
  replace G := G.mono k10
  replace F := F.mono k10
  replace B := B.trans k10
  have hnd : ks.Nodup := hperm.nodup_iff.mpr MA.nd
  have hpl : (slabsL mA ks).length ≤ ks.length := List.length_filterMap_le ..
  obtain ⟨ysl, ksl, hls, hsl, hpr⟩ := hLx.at
  refine it_list S R.handled hls rfl ⟨_, rfl⟩ ?_
  clear S
  intro it s I
  refine loop_it (fun i ρ Λ => ∃ a od3 m3, ρ = [(Str.ofString "_law_script", some (.ref l)), (Str.ofString "_law_rows_here", some (.ref lr)), (Str.ofString "_law_over_here", some (.ref d)), (Str.ofString "_law_floor", some (.ref fl)), (Str.ofString "_law_laying", some (.ref ly)), (Str.ofString "_law_way", some (.ref lw)), (Str.ofString "_law_due", some (.ref dd)), (Str.ofString "_law_cell", a1), (Str.ofString "_law_k", b1), (Str.ofString "_law_handed", some (.ref lh)), (Str.ofString "_law_found", some (.ref ly2)), (Str.ofString "_law_one", some (.ref lyA)), (Str.ofString "_law_other", some (.ref lyB)), (Str.ofString "_law_kept", some (.ref dk)), (Str.ofString "_law_slab", a)] ∧ Λ = [(dA, od3)] ∧ DG PP w RInt od3 m3 ∧ Lft (mayB rows wd) mA (slabsL mA ks) i m3) I (jI3 _ _ _ rfl rfl ⟨DA, Lft.start MA⟩) ?_ ?_ ?_
  · intro i ρ' Λ' hJx; exact jE3 hJx fun _ _ _ _ e _ => by rw [e]; rfl
  · rintro i v ρ₁ Λ₁ hi1 hv hJx
    refine jE3 hJx ?_
    clear hJx
    rintro a od4 m4 rfl rfl ⟨D4, L4⟩
    obtain ⟨⟨pa, pb⟩, hp⟩ : ∃ p, (slabsL mA ks)[i]? = some p := ⟨_, List.getElem?_eq_getElem (by (first | lia | omega))⟩
    obtain ⟨tx, ta, tb, e1, e2⟩ := hpr i _ hp
    rw [e1] at hv
    cases hv
    obtain ⟨hab, L5⟩ := L4.lift MA hnd hp
    have hl4 := lay_len L4.lay
    refine ⟨_, .tail (.tail (.tail (.tail (.tail (.tail (.tail (.tail (.tail (.tail (.tail (.tail (.tail (.tail .head))))))))))))), ?_⟩
    walk_at "turn"
    replace F := F.mono k
    replace Y := ObjAt.mono Y k
    have e2' := k _ _ e2
    clear k
    walk_at "go"
    refine u_at (S.atBase e2') (.inl ⟨rfl, rfl⟩) (by rfl) ?_
    walk_at "go"
    refine lift_spec S.base ((S.led (dA, od4) (List.mem_cons_self ..)).2.2.2 rfl) G (R.in_ (by decide)) F Y (S.atLed (List.mem_cons_self ..)) D4 hdA L4.lay hab (by (first | lia | omega)) ?_
    intro od5 s' D5 up
    replace S := S.upd .head up
    clear up
    walk_at "go"
    exact hNx _ _ _ _ (Sub.refl _) S (jI3 _ _ _ rfl rfl ⟨D5, L5⟩)
  clear I
  rintro ρ' Λ' s hJx
  refine jE3 hJx ?_
  clear hJx
  rintro a2 od4 m4 rfl rfl ⟨D4, L4⟩ S
  rw [hsl] at L4
  have hm4 := L4.nil gg MA hperm
  subst hm4
  have Y1 := Y
  clear Y
  have Y := (PB.mono (k9.trans k10)).obj
  walk_at "go"
  refine d_eqT fl_int eqv_int (S.atBase ((k9.trans k10) _ _ hoB)) DB hdB (S.atBase (k10 _ _ hok)) Dk hdsk (by walk_at "room") (fun _ => rfl) ?_
  clear Y
  have Y := Y1
  walk_at "go"
  refine d_len S (S.atLed (List.mem_cons_self ..)) D4 hdA (by simp) ?_; clear S; intro t s S
  walk_at "go"
  exact h _ (S.outs B)


end Fl
open PySem PySem.W PyProof.Rows
theorem PySem.Challenge.cw_uf030040_07_holds : PySem.Challenge.rw_uf030040_07.Holds := by
  refine Fl.hd ?_
  k_fill
  intro w s₀ s₁ mg mb G Y fa o pm cd doc dV kV ho hd hcd hD hmg hg args vals as hpre hlay hrd hwl hlo
  have KX := kIn_of Y
  refine Ground.open G ?_
  intro T B D TE TW
  wrow_args hpre hlay hrd hwl hlo
  refine enter_call ?_
  refine codeAny_mono ?_ (fun _ _ g => GoodW.toG g)
  have e := mg_of KX T.g (show nsIn (Fl.kH w.params) mainGlobals (Str.ofString "law") = some (some (.ref 354)) by kernel_rfl)
  have hfa : fa = 354 := by
    have := Option.some.inj (hmg.symm.trans e)
    cases this; rfl
  subst hfa
  refine Fl.law_spec rfl (Fl.Gr.of KX T) ⟨by decide, by decide, rfl⟩ ⟨_, by assumption, by assumption⟩ (by (first | lia | omega)) ?_
  intro s' hk
  obtain ⟨h', tk, rfl, hk'⟩ := hk
  exact ⟨.inl ⟨.bool true, .bool true, [], rfl, fun _ => rfl, .bool _, by kernel_rfl, fun _ => ⟨List.nodup_nil, fun _ h => nomatch h⟩⟩, hk', rfl, hg⟩

