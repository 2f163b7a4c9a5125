import PyProof.Rows.All
import Wide.All
import OpenK.AllK
import Flt.Ops
import KE.KIsNot
import Wide.FinOn
import PySem.Challenge.RW_uf030040_06

set_option maxRecDepth 100000
set_option autoImplicit false
set_option Elab.async false
set_option linter.all false
set_option maxHeartbeats 4000000
set_option compiler.extract_closed false

namespace Fl
open PySem PySem.W PyProof.Rows
abbrev PP : Program := PySem.Challenge.pw_uf030040_06
noncomputable def stAt (i : Nat) : Stmt := (PP.main.body[i]?).getD default
noncomputable def inAt (i j : Nat) : Stmt := match stAt i with
  | .ClassDef _ _ _ b _ _ _ _ _ _ _ => (b[j]?).getD default
  | _ => default
noncomputable def fnD (st : Stmt) (qual : Str) (dV kV doc pm : Value) (an : Option Addr) (cd ct : Value) : FuncData := match st with
  | .FunctionDef n a b _ _ _ sc _ _ _ => { name := n, qualname := qual, params := a, body := .stmts b, scope := sc, globals := mainGlobals, closure := [], defaults := dV, kwdefaults := kV, doc := doc, pyModule := pm, annotations := an, code := cd, closureTuple := ct, builtins := builtinsNs }
  | _ => default
noncomputable def kA : List Addr := [2, 3, 15, 17, 18, 20, 21, 22, 24, 25, 27, 28, 29, 31, 32, 34, 35, 36, 43, 44, 45, 46, 49, 56, 57, 58, 61, 68, 69, 70, 73, 80, 81, 82, 85, 92, 93, 94, 97, 104, 105, 106, 109, 116, 117, 118, 121, 128, 129, 130, 133, 135, 136, 138, 139, 147, 149, 150, 152, 153, 154, 156, 157, 159, 160, 161, 163, 164, 166, 167, 168, 171, 172, 173, 175, 176, 178, 179, 180, 182, 183, 185, 186, 187, 189, 190, 192, 193, 194, 195, 196, 197, 198, 208, 210, 211, 213, 214, 215, 217, 218, 220, 221, 222, 224, 225, 227, 228, 229, 231, 232, 234, 235, 236, 239, 240, 241, 243, 244, 246, 247, 248, 250, 251, 253, 254, 255, 256, 257, 258, 259, 262, 264, 265, 267, 268, 269, 271, 272, 274, 275, 276, 279, 280, 281, 283, 284, 286, 287, 288, 291, 292, 293, 296, 297, 298, 300, 301, 303, 304, 305, 308, 309, 310, 312, 313, 315, 316, 317, 319, 320, 322, 323, 324, 326, 327, 329, 330, 331, 333, 334, 336, 337, 338, 340, 341, 343, 344, 345, 347, 348, 350, 351]
noncomputable def kH (P : Params) : Frag := (nat_lit 2, ⟨.none, none, (.dict #[] 0), #[]⟩) :: (nat_lit 3, ⟨(.type "dict"), none, (.dict #[⟨PyData.keyHash P (Str.ofString "__name__"), (.str (Str.ofString "__name__") 165), (.str (Str.ofString "law_uf030040_06") 534)⟩, ⟨PyData.keyHash P (Str.ofString "__doc__"), (.str (Str.ofString "__doc__") 166), .none⟩, ⟨PyData.keyHash P (Str.ofString "__package__"), (.str (Str.ofString "__package__") 167), .none⟩, ⟨PyData.keyHash P (Str.ofString "__loader__"), (.str (Str.ofString "__loader__") 168), (.builtin "__main__.__loader__#opaque")⟩, ⟨PyData.keyHash P (Str.ofString "__spec__"), (.str (Str.ofString "__spec__") 169), .none⟩, ⟨PyData.keyHash P (Str.ofString "__annotations__"), (.str (Str.ofString "__annotations__") 170), (.ref 6)⟩, ⟨PyData.keyHash P (Str.ofString "__builtins__"), (.str (Str.ofString "__builtins__") 171), (.ref 4)⟩, ⟨PyData.keyHash P (Str.ofString "__file__"), (.str (Str.ofString "__file__") 173), (.str (Str.ofString "/claim/cut.py") 172)⟩, ⟨PyData.keyHash P (Str.ofString "__cached__"), (.str (Str.ofString "__cached__") 174), .none⟩, ⟨PyData.keyHash P (Str.ofString "_wall"), (.str (Str.ofString "_wall") 193), (.ref 21)⟩, ⟨PyData.keyHash P (Str.ofString "reached"), (.str (Str.ofString "reached") 210), (.ref 28)⟩, ⟨PyData.keyHash P (Str.ofString "way_to"), (.str (Str.ofString "way_to") 219), (.ref 35)⟩, ⟨PyData.keyHash P (Str.ofString "FloorError"), (.str (Str.ofString "FloorError") 239), (.ref 45)⟩, ⟨PyData.keyHash P (Str.ofString "TooLarge"), (.str (Str.ofString "TooLarge") 255), (.ref 58)⟩, ⟨PyData.keyHash P (Str.ofString "Ragged"), (.str (Str.ofString "Ragged") 271), (.ref 70)⟩, ⟨PyData.keyHash P (Str.ofString "StrangeSign"), (.str (Str.ofString "StrangeSign") 287), (.ref 82)⟩, ⟨PyData.keyHash P (Str.ofString "NoCell"), (.str (Str.ofString "NoCell") 303), (.ref 94)⟩, ⟨PyData.keyHash P (Str.ofString "NotBeside"), (.str (Str.ofString "NotBeside") 319), (.ref 106)⟩, ⟨PyData.keyHash P (Str.ofString "Covered"), (.str (Str.ofString "Covered") 335), (.ref 118)⟩, ⟨PyData.keyHash P (Str.ofString "Uncovered"), (.str (Str.ofString "Uncovered") 351), (.ref 130)⟩, ⟨PyData.keyHash P (Str.ofString "MOST"), (.str (Str.ofString "MOST") 355), (.int 12 354)⟩, ⟨PyData.keyHash P (Str.ofString "SIGNS"), (.str (Str.ofString "SIGNS") 357), (.str (Str.ofString ".-|#") 356)⟩, ⟨PyData.keyHash P (Str.ofString "ALONG"), (.str (Str.ofString "ALONG") 359), (.str (Str.ofString ".-") 358)⟩, ⟨PyData.keyHash P (Str.ofString "ACROSS"), (.str (Str.ofString "ACROSS") 361), (.str (Str.ofString ".|") 360)⟩, ⟨PyData.keyHash P (Str.ofString "look_at_sizes"), (.str (Str.ofString "look_at_sizes") 369), (.ref 139)⟩, ⟨PyData.keyHash P (Str.ofString "Floor"), (.str (Str.ofString "Floor") 455), (.ref 196)⟩, ⟨PyData.keyHash P (Str.ofString "Laying"), (.str (Str.ofString "Laying") 533), (.ref 257)⟩, ⟨PyData.keyHash P (Str.ofString "_law_cell_at"), (.str (Str.ofString "_law_cell_at") 543), (.ref 268)⟩, ⟨PyData.keyHash P (Str.ofString "_law_number"), (.str (Str.ofString "_law_number") 552), (.ref 275)⟩, ⟨PyData.keyHash P (Str.ofString "_law_rows"), (.str (Str.ofString "_law_rows") 558), (.ref 280)⟩, ⟨PyData.keyHash P (Str.ofString "_law_may"), (.str (Str.ofString "_law_may") 570), (.ref 287)⟩, ⟨PyData.keyHash P (Str.ofString "_law_cells"), (.str (Str.ofString "_law_cells") 576), (.ref 292)⟩, ⟨PyData.keyHash P (Str.ofString "_law_beside"), (.str (Str.ofString "_law_beside") 582), (.ref 297)⟩, ⟨PyData.keyHash P (Str.ofString "_law_whole"), (.str (Str.ofString "_law_whole") 589), (.ref 304)⟩, ⟨PyData.keyHash P (Str.ofString "_law_over"), (.str (Str.ofString "_law_over") 595), (.ref 309)⟩, ⟨PyData.keyHash P (Str.ofString "_law_made"), (.str (Str.ofString "_law_made") 605), (.ref 316)⟩, ⟨PyData.keyHash P (Str.ofString "_law_reached"), (.str (Str.ofString "_law_reached") 620), (.ref 323)⟩, ⟨PyData.keyHash P (Str.ofString "_law_link"), (.str (Str.ofString "_law_link") 633), (.ref 330)⟩, ⟨PyData.keyHash P (Str.ofString "_law_way"), (.str (Str.ofString "_law_way") 645), (.ref 337)⟩, ⟨PyData.keyHash P (Str.ofString "_law_less"), (.str (Str.ofString "_law_less") 655), (.ref 344)⟩, ⟨PyData.keyHash P (Str.ofString "law"), (.str (Str.ofString "law") 674), (.ref 351)⟩] 41), #[]⟩) :: (nat_lit 15, ⟨(.type "tuple"), none, (.seq #[] 0), #[]⟩) :: (nat_lit 17, ⟨(.type "tuple"), none, (.seq #[(.str (Str.ofString "k") 190)] 0), #[]⟩) :: (nat_lit 18, ⟨(.type "tuple"), none, (.seq #[] 0), #[]⟩) :: (nat_lit 20, ⟨(.type "code"), none, (.fields #[(.str (Str.ofString "_wall") 187), (.str (Str.ofString "_wall") 188), (.str (Str.ofString "/claim/cut.py") 189), (.int 1 0), (.int 1 0), (.int 0 0), (.int 0 0), (.int 3 0), (.ref 15), (.bool true), (.int 181 0), (.ref 16), .none, (.ref 17), (.ref 18), (.ref 19), (.int 191 0), (.int 1 0), (.str (Str.ofString "/claim/cut.py") 192)]), #[]⟩) :: (nat_lit 21, ⟨(.type "function"), none, (.func (fnD (stAt 0) (Str.ofString "_wall") .none .none .none (.str (Str.ofString "__main__") 164) none (.ref 20) .none)), #[]⟩) :: (nat_lit 22, ⟨(.type "tuple"), none, (.seq #[] 0), #[]⟩) :: (nat_lit 24, ⟨(.type "tuple"), none, (.seq #[(.str (Str.ofString "laying") 199), (.str (Str.ofString "shade") 200), (.str (Str.ofString "floor") 201), (.str (Str.ofString "found") 202), (.str (Str.ofString "waiting") 203), (.str (Str.ofString "cell") 204), (.str (Str.ofString "place") 205), (.str (Str.ofString "other") 206), (.str (Str.ofString "mate") 207)] 0), #[]⟩) :: (nat_lit 25, ⟨(.type "tuple"), none, (.seq #[] 0), #[]⟩) :: (nat_lit 27, ⟨(.type "code"), none, (.fields #[(.str (Str.ofString "reached") 196), (.str (Str.ofString "reached") 197), (.str (Str.ofString "/claim/cut.py") 198), (.int 5 0), (.int 2 0), (.int 0 0), (.int 0 0), (.int 3 0), (.ref 22), (.bool true), (.int 181 0), (.ref 23), .none, (.ref 24), (.ref 25), (.ref 26), (.int 208 0), (.int 5 0), (.str (Str.ofString "/claim/cut.py") 209)]), #[]⟩) :: (nat_lit 28, ⟨(.type "function"), none, (.func (fnD (stAt 2) (Str.ofString "reached") .none .none .none (.str (Str.ofString "slabfloor.ways") 194) none (.ref 27) .none)), #[]⟩) :: (nat_lit 29, ⟨(.type "tuple"), none, (.seq #[] 0), #[]⟩) :: (nat_lit 31, ⟨(.type "tuple"), none, (.seq #[(.str (Str.ofString "found") 214), (.str (Str.ofString "cell") 215), (.str (Str.ofString "way") 216)] 0), #[]⟩) :: (nat_lit 32, ⟨(.type "tuple"), none, (.seq #[] 0), #[]⟩) :: (nat_lit 34, ⟨(.type "code"), none, (.fields #[(.str (Str.ofString "way_to") 211), (.str (Str.ofString "way_to") 212), (.str (Str.ofString "/claim/cut.py") 213), (.int 25 0), (.int 2 0), (.int 0 0), (.int 0 0), (.int 3 0), (.ref 29), (.bool true), (.int 181 0), (.ref 30), .none, (.ref 31), (.ref 32), (.ref 33), (.int 217 0), (.int 25 0), (.str (Str.ofString "/claim/cut.py") 218)]), #[]⟩) :: (nat_lit 35, ⟨(.type "function"), none, (.func (fnD (stAt 3) (Str.ofString "way_to") .none .none .none (.str (Str.ofString "slabfloor.ways") 194) none (.ref 34) .none)), #[]⟩) :: (nat_lit 36, ⟨(.type "tuple"), none, (.seq #[(.type "ValueError")] 0), #[]⟩) :: (nat_lit 43, ⟨(.type "tuple"), none, (.seq #[] 0), #[]⟩) :: (nat_lit 44, ⟨(.type "dict"), none, (.dict #[⟨PyData.keyHash P (Str.ofString "__module__"), (.str (Str.ofString "__module__") 229), (.str (Str.ofString "slabfloor.errors") 220)⟩, ⟨PyData.keyHash P (Str.ofString "__firstlineno__"), (.str (Str.ofString "__firstlineno__") 233), (.int 31 232)⟩, ⟨PyData.keyHash P (Str.ofString "__static_attributes__"), (.str (Str.ofString "__static_attributes__") 234), (.ref 43)⟩, ⟨PyData.keyHash P (Str.ofString "__weakref__"), (.str (Str.ofString "__weakref__") 236), (.ref 46)⟩, ⟨PyData.keyHash P (Str.ofString "__doc__"), (.str (Str.ofString "__doc__") 237), .none⟩] 3), #[]⟩) :: (nat_lit 45, ⟨(.type "type"), none, (.cls { name := (Str.ofString "FloorError"), bases := [(.type "ValueError")], mro := [(.ref 45), (.type "ValueError"), (.type "Exception"), (.type "BaseException"), (.type "object")], ns := 44, qualname := (Str.ofString "FloorError"), hasDict := true, slotNames := [], subclasses := [(.ref 58), (.ref 70), (.ref 82), (.ref 94), (.ref 106), (.ref 118), (.ref 130)], abstract := false, collection := none, hasDel := false }), #[(some (.ref 36)), none, (some (.str (Str.ofString "FloorError") 222)), (some (.str (Str.ofString "FloorError") 230)), (some (.builtin "ValueError.__new__")), (some (.bool true))]⟩) :: (nat_lit 46, ⟨(.type "getset_descriptor"), none, (.fields #[(.str (Str.ofString "__weakref__") 235), (.ref 45), (.builtin "ExceptionGroup.__weakref__"), .none]), #[]⟩) :: (nat_lit 49, ⟨(.type "tuple"), none, (.seq #[(.ref 45)] 0), #[]⟩) :: (nat_lit 56, ⟨(.type "tuple"), none, (.seq #[] 0), #[]⟩) :: (nat_lit 57, ⟨(.type "dict"), none, (.dict #[⟨PyData.keyHash P (Str.ofString "__module__"), (.str (Str.ofString "__module__") 247), (.str (Str.ofString "slabfloor.errors") 220)⟩, ⟨PyData.keyHash P (Str.ofString "__firstlineno__"), (.str (Str.ofString "__firstlineno__") 251), (.int 33 250)⟩, ⟨PyData.keyHash P (Str.ofString "__static_attributes__"), (.str (Str.ofString "__static_attributes__") 252), (.ref 56)⟩, ⟨PyData.keyHash P (Str.ofString "__doc__"), (.str (Str.ofString "__doc__") 253), .none⟩] 2), #[]⟩) :: (nat_lit 58, ⟨(.type "type"), none, (.cls { name := (Str.ofString "TooLarge"), bases := [(.ref 45)], mro := [(.ref 58), (.ref 45), (.type "ValueError"), (.type "Exception"), (.type "BaseException"), (.type "object")], ns := 57, qualname := (Str.ofString "TooLarge"), hasDict := true, slotNames := [], subclasses := [], abstract := false, collection := none, hasDel := false }), #[(some (.ref 49)), none, (some (.str (Str.ofString "TooLarge") 240)), (some (.str (Str.ofString "TooLarge") 248)), (some (.builtin "ValueError.__new__")), (some (.bool true))]⟩) :: (nat_lit 61, ⟨(.type "tuple"), none, (.seq #[(.ref 45)] 0), #[]⟩) :: (nat_lit 68, ⟨(.type "tuple"), none, (.seq #[] 0), #[]⟩) :: (nat_lit 69, ⟨(.type "dict"), none, (.dict #[⟨PyData.keyHash P (Str.ofString "__module__"), (.str (Str.ofString "__module__") 263), (.str (Str.ofString "slabfloor.errors") 220)⟩, ⟨PyData.keyHash P (Str.ofString "__firstlineno__"), (.str (Str.ofString "__firstlineno__") 267), (.int 35 266)⟩, ⟨PyData.keyHash P (Str.ofString "__static_attributes__"), (.str (Str.ofString "__static_attributes__") 268), (.ref 68)⟩, ⟨PyData.keyHash P (Str.ofString "__doc__"), (.str (Str.ofString "__doc__") 269), .none⟩] 2), #[]⟩) :: (nat_lit 70, ⟨(.type "type"), none, (.cls { name := (Str.ofString "Ragged"), bases := [(.ref 45)], mro := [(.ref 70), (.ref 45), (.type "ValueError"), (.type "Exception"), (.type "BaseException"), (.type "object")], ns := 69, qualname := (Str.ofString "Ragged"), hasDict := true, slotNames := [], subclasses := [], abstract := false, collection := none, hasDel := false }), #[(some (.ref 61)), none, (some (.str (Str.ofString "Ragged") 256)), (some (.str (Str.ofString "Ragged") 264)), (some (.builtin "ValueError.__new__")), (some (.bool true))]⟩) :: (nat_lit 73, ⟨(.type "tuple"), none, (.seq #[(.ref 45)] 0), #[]⟩) :: (nat_lit 80, ⟨(.type "tuple"), none, (.seq #[] 0), #[]⟩) :: (nat_lit 81, ⟨(.type "dict"), none, (.dict #[⟨PyData.keyHash P (Str.ofString "__module__"), (.str (Str.ofString "__module__") 279), (.str (Str.ofString "slabfloor.errors") 220)⟩, ⟨PyData.keyHash P (Str.ofString "__firstlineno__"), (.str (Str.ofString "__firstlineno__") 283), (.int 37 282)⟩, ⟨PyData.keyHash P (Str.ofString "__static_attributes__"), (.str (Str.ofString "__static_attributes__") 284), (.ref 80)⟩, ⟨PyData.keyHash P (Str.ofString "__doc__"), (.str (Str.ofString "__doc__") 285), .none⟩] 2), #[]⟩) :: (nat_lit 82, ⟨(.type "type"), none, (.cls { name := (Str.ofString "StrangeSign"), bases := [(.ref 45)], mro := [(.ref 82), (.ref 45), (.type "ValueError"), (.type "Exception"), (.type "BaseException"), (.type "object")], ns := 81, qualname := (Str.ofString "StrangeSign"), hasDict := true, slotNames := [], subclasses := [], abstract := false, collection := none, hasDel := false }), #[(some (.ref 73)), none, (some (.str (Str.ofString "StrangeSign") 272)), (some (.str (Str.ofString "StrangeSign") 280)), (some (.builtin "ValueError.__new__")), (some (.bool true))]⟩) :: (nat_lit 85, ⟨(.type "tuple"), none, (.seq #[(.ref 45)] 0), #[]⟩) :: (nat_lit 92, ⟨(.type "tuple"), none, (.seq #[] 0), #[]⟩) :: (nat_lit 93, ⟨(.type "dict"), none, (.dict #[⟨PyData.keyHash P (Str.ofString "__module__"), (.str (Str.ofString "__module__") 295), (.str (Str.ofString "slabfloor.errors") 220)⟩, ⟨PyData.keyHash P (Str.ofString "__firstlineno__"), (.str (Str.ofString "__firstlineno__") 299), (.int 39 298)⟩, ⟨PyData.keyHash P (Str.ofString "__static_attributes__"), (.str (Str.ofString "__static_attributes__") 300), (.ref 92)⟩, ⟨PyData.keyHash P (Str.ofString "__doc__"), (.str (Str.ofString "__doc__") 301), .none⟩] 2), #[]⟩) :: (nat_lit 94, ⟨(.type "type"), none, (.cls { name := (Str.ofString "NoCell"), bases := [(.ref 45)], mro := [(.ref 94), (.ref 45), (.type "ValueError"), (.type "Exception"), (.type "BaseException"), (.type "object")], ns := 93, qualname := (Str.ofString "NoCell"), hasDict := true, slotNames := [], subclasses := [], abstract := false, collection := none, hasDel := false }), #[(some (.ref 85)), none, (some (.str (Str.ofString "NoCell") 288)), (some (.str (Str.ofString "NoCell") 296)), (some (.builtin "ValueError.__new__")), (some (.bool true))]⟩) :: (nat_lit 97, ⟨(.type "tuple"), none, (.seq #[(.ref 45)] 0), #[]⟩) :: (nat_lit 104, ⟨(.type "tuple"), none, (.seq #[] 0), #[]⟩) :: (nat_lit 105, ⟨(.type "dict"), none, (.dict #[⟨PyData.keyHash P (Str.ofString "__module__"), (.str (Str.ofString "__module__") 311), (.str (Str.ofString "slabfloor.errors") 220)⟩, ⟨PyData.keyHash P (Str.ofString "__firstlineno__"), (.str (Str.ofString "__firstlineno__") 315), (.int 41 314)⟩, ⟨PyData.keyHash P (Str.ofString "__static_attributes__"), (.str (Str.ofString "__static_attributes__") 316), (.ref 104)⟩, ⟨PyData.keyHash P (Str.ofString "__doc__"), (.str (Str.ofString "__doc__") 317), .none⟩] 2), #[]⟩) :: (nat_lit 106, ⟨(.type "type"), none, (.cls { name := (Str.ofString "NotBeside"), bases := [(.ref 45)], mro := [(.ref 106), (.ref 45), (.type "ValueError"), (.type "Exception"), (.type "BaseException"), (.type "object")], ns := 105, qualname := (Str.ofString "NotBeside"), hasDict := true, slotNames := [], subclasses := [], abstract := false, collection := none, hasDel := false }), #[(some (.ref 97)), none, (some (.str (Str.ofString "NotBeside") 304)), (some (.str (Str.ofString "NotBeside") 312)), (some (.builtin "ValueError.__new__")), (some (.bool true))]⟩) :: (nat_lit 109, ⟨(.type "tuple"), none, (.seq #[(.ref 45)] 0), #[]⟩) :: (nat_lit 116, ⟨(.type "tuple"), none, (.seq #[] 0), #[]⟩) :: (nat_lit 117, ⟨(.type "dict"), none, (.dict #[⟨PyData.keyHash P (Str.ofString "__module__"), (.str (Str.ofString "__module__") 327), (.str (Str.ofString "slabfloor.errors") 220)⟩, ⟨PyData.keyHash P (Str.ofString "__firstlineno__"), (.str (Str.ofString "__firstlineno__") 331), (.int 43 330)⟩, ⟨PyData.keyHash P (Str.ofString "__static_attributes__"), (.str (Str.ofString "__static_attributes__") 332), (.ref 116)⟩, ⟨PyData.keyHash P (Str.ofString "__doc__"), (.str (Str.ofString "__doc__") 333), .none⟩] 2), #[]⟩) :: (nat_lit 118, ⟨(.type "type"), none, (.cls { name := (Str.ofString "Covered"), bases := [(.ref 45)], mro := [(.ref 118), (.ref 45), (.type "ValueError"), (.type "Exception"), (.type "BaseException"), (.type "object")], ns := 117, qualname := (Str.ofString "Covered"), hasDict := true, slotNames := [], subclasses := [], abstract := false, collection := none, hasDel := false }), #[(some (.ref 109)), none, (some (.str (Str.ofString "Covered") 320)), (some (.str (Str.ofString "Covered") 328)), (some (.builtin "ValueError.__new__")), (some (.bool true))]⟩) :: (nat_lit 121, ⟨(.type "tuple"), none, (.seq #[(.ref 45)] 0), #[]⟩) :: (nat_lit 128, ⟨(.type "tuple"), none, (.seq #[] 0), #[]⟩) :: (nat_lit 129, ⟨(.type "dict"), none, (.dict #[⟨PyData.keyHash P (Str.ofString "__module__"), (.str (Str.ofString "__module__") 343), (.str (Str.ofString "slabfloor.errors") 220)⟩, ⟨PyData.keyHash P (Str.ofString "__firstlineno__"), (.str (Str.ofString "__firstlineno__") 347), (.int 45 346)⟩, ⟨PyData.keyHash P (Str.ofString "__static_attributes__"), (.str (Str.ofString "__static_attributes__") 348), (.ref 128)⟩, ⟨PyData.keyHash P (Str.ofString "__doc__"), (.str (Str.ofString "__doc__") 349), .none⟩] 2), #[]⟩) :: (nat_lit 130, ⟨(.type "type"), none, (.cls { name := (Str.ofString "Uncovered"), bases := [(.ref 45)], mro := [(.ref 130), (.ref 45), (.type "ValueError"), (.type "Exception"), (.type "BaseException"), (.type "object")], ns := 129, qualname := (Str.ofString "Uncovered"), hasDict := true, slotNames := [], subclasses := [], abstract := false, collection := none, hasDel := false }), #[(some (.ref 121)), none, (some (.str (Str.ofString "Uncovered") 336)), (some (.str (Str.ofString "Uncovered") 344)), (some (.builtin "ValueError.__new__")), (some (.bool true))]⟩) :: (nat_lit 133, ⟨(.type "tuple"), none, (.seq #[] 0), #[]⟩) :: (nat_lit 135, ⟨(.type "tuple"), none, (.seq #[(.str (Str.ofString "rows") 365), (.str (Str.ofString "row") 366)] 0), #[]⟩) :: (nat_lit 136, ⟨(.type "tuple"), none, (.seq #[] 0), #[]⟩) :: (nat_lit 138, ⟨(.type "code"), none, (.fields #[(.str (Str.ofString "look_at_sizes") 362), (.str (Str.ofString "look_at_sizes") 363), (.str (Str.ofString "/claim/cut.py") 364), (.int 52 0), (.int 1 0), (.int 0 0), (.int 0 0), (.int 3 0), (.ref 133), (.bool true), (.int 181 0), (.ref 134), .none, (.ref 135), (.ref 136), (.ref 137), (.int 367 0), (.int 52 0), (.str (Str.ofString "/claim/cut.py") 368)]), #[]⟩) :: (nat_lit 139, ⟨(.type "function"), none, (.func (fnD (stAt 18) (Str.ofString "look_at_sizes") .none .none .none (.str (Str.ofString "slabfloor.floor") 352) none (.ref 138) .none)), #[]⟩) :: (nat_lit 147, ⟨(.type "tuple"), none, (.seq #[] 0), #[]⟩) :: (nat_lit 149, ⟨(.type "tuple"), none, (.seq #[(.str (Str.ofString "self") 385), (.str (Str.ofString "rows") 386), (.str (Str.ofString "row") 387), (.str (Str.ofString "sign") 388)] 0), #[]⟩) :: (nat_lit 150, ⟨(.type "tuple"), none, (.seq #[] 0), #[]⟩) :: (nat_lit 152, ⟨(.type "code"), none, (.fields #[(.str (Str.ofString "__init__") 382), (.str (Str.ofString "Floor.__init__") 383), (.str (Str.ofString "/claim/cut.py") 384), (.int 63 0), (.int 2 0), (.int 0 0), (.int 0 0), (.int 3 0), (.ref 147), (.bool true), (.int 181 0), (.ref 148), .none, (.ref 149), (.ref 150), (.ref 151), (.int 389 0), (.int 63 0), (.str (Str.ofString "/claim/cut.py") 390)]), #[]⟩) :: (nat_lit 153, ⟨(.type "function"), none, (.func (fnD (inAt 19 0) (Str.ofString "Floor.__init__") .none .none .none (.str (Str.ofString "slabfloor.floor") 352) none (.ref 152) .none)), #[]⟩) :: (nat_lit 154, ⟨(.type "tuple"), none, (.seq #[] 0), #[]⟩) :: (nat_lit 156, ⟨(.type "tuple"), none, (.seq #[(.str (Str.ofString "self") 395), (.str (Str.ofString "place") 396)] 0), #[]⟩) :: (nat_lit 157, ⟨(.type "tuple"), none, (.seq #[] 0), #[]⟩) :: (nat_lit 159, ⟨(.type "code"), none, (.fields #[(.str (Str.ofString "sign_of") 392), (.str (Str.ofString "Floor.sign_of") 393), (.str (Str.ofString "/claim/cut.py") 394), (.int 75 0), (.int 2 0), (.int 0 0), (.int 0 0), (.int 3 0), (.ref 154), (.bool true), (.int 181 0), (.ref 155), .none, (.ref 156), (.ref 157), (.ref 158), (.int 397 0), (.int 75 0), (.str (Str.ofString "/claim/cut.py") 398)]), #[]⟩) :: (nat_lit 160, ⟨(.type "function"), none, (.func (fnD (inAt 19 1) (Str.ofString "Floor.sign_of") .none .none .none (.str (Str.ofString "slabfloor.floor") 352) none (.ref 159) .none)), #[]⟩) :: (nat_lit 161, ⟨(.type "tuple"), none, (.seq #[] 0), #[]⟩) :: (nat_lit 163, ⟨(.type "tuple"), none, (.seq #[(.str (Str.ofString "self") 403), (.str (Str.ofString "place") 404)] 0), #[]⟩) :: (nat_lit 164, ⟨(.type "tuple"), none, (.seq #[] 0), #[]⟩) :: (nat_lit 166, ⟨(.type "code"), none, (.fields #[(.str (Str.ofString "has") 400), (.str (Str.ofString "Floor.has") 401), (.str (Str.ofString "/claim/cut.py") 402), (.int 78 0), (.int 2 0), (.int 0 0), (.int 0 0), (.int 3 0), (.ref 161), (.bool true), (.int 181 0), (.ref 162), .none, (.ref 163), (.ref 164), (.ref 165), (.int 405 0), (.int 78 0), (.str (Str.ofString "/claim/cut.py") 406)]), #[]⟩) :: (nat_lit 167, ⟨(.type "function"), none, (.func (fnD (inAt 19 2) (Str.ofString "Floor.has") .none .none .none (.str (Str.ofString "slabfloor.floor") 352) none (.ref 166) .none)), #[]⟩) :: (nat_lit 168, ⟨(.type "tuple"), none, (.seq #[] 0), #[]⟩) :: (nat_lit 171, ⟨(.type "code"), none, (.fields #[(.str (Str.ofString "cells") 408), (.str (Str.ofString "Floor.cells") 409), (.str (Str.ofString "/claim/cut.py") 410), (.int 83 0), (.int 1 0), (.int 0 0), (.int 0 0), (.int 3 0), (.ref 168), (.bool true), (.int 181 0), (.ref 169), .none, .none, .none, (.ref 170), (.int 411 0), (.int 83 0), (.str (Str.ofString "/claim/cut.py") 412)]), #[]⟩) :: (nat_lit 172, ⟨(.type "function"), none, (.func (fnD (inAt 19 3) (Str.ofString "Floor.cells") .none .none .none (.str (Str.ofString "slabfloor.floor") 352) none (.ref 171) .none)), #[]⟩) :: (nat_lit 173, ⟨(.type "tuple"), none, (.seq #[] 0), #[]⟩) :: (nat_lit 175, ⟨(.type "tuple"), none, (.seq #[(.str (Str.ofString "self") 417), (.str (Str.ofString "place") 418)] 0), #[]⟩) :: (nat_lit 176, ⟨(.type "tuple"), none, (.seq #[] 0), #[]⟩) :: (nat_lit 178, ⟨(.type "code"), none, (.fields #[(.str (Str.ofString "shade") 414), (.str (Str.ofString "Floor.shade") 415), (.str (Str.ofString "/claim/cut.py") 416), (.int 86 0), (.int 2 0), (.int 0 0), (.int 0 0), (.int 3 0), (.ref 173), (.bool true), (.int 181 0), (.ref 174), .none, (.ref 175), (.ref 176), (.ref 177), (.int 419 0), (.int 86 0), (.str (Str.ofString "/claim/cut.py") 420)]), #[]⟩) :: (nat_lit 179, ⟨(.type "function"), none, (.func (fnD (inAt 19 4) (Str.ofString "Floor.shade") .none .none .none (.str (Str.ofString "slabfloor.floor") 352) none (.ref 178) .none)), #[]⟩) :: (nat_lit 180, ⟨(.type "tuple"), none, (.seq #[] 0), #[]⟩) :: (nat_lit 182, ⟨(.type "tuple"), none, (.seq #[(.str (Str.ofString "self") 425), (.str (Str.ofString "one") 426), (.str (Str.ofString "other") 427), (.str (Str.ofString "low") 428), (.str (Str.ofString "high") 429), (.str (Str.ofString "first") 430), (.str (Str.ofString "second") 431)] 0), #[]⟩) :: (nat_lit 183, ⟨(.type "tuple"), none, (.seq #[] 0), #[]⟩) :: (nat_lit 185, ⟨(.type "code"), none, (.fields #[(.str (Str.ofString "may") 422), (.str (Str.ofString "Floor.may") 423), (.str (Str.ofString "/claim/cut.py") 424), (.int 91 0), (.int 3 0), (.int 0 0), (.int 0 0), (.int 3 0), (.ref 180), (.bool true), (.int 181 0), (.ref 181), .none, (.ref 182), (.ref 183), (.ref 184), (.int 432 0), (.int 91 0), (.str (Str.ofString "/claim/cut.py") 433)]), #[]⟩) :: (nat_lit 186, ⟨(.type "function"), none, (.func (fnD (inAt 19 5) (Str.ofString "Floor.may") .none .none .none (.str (Str.ofString "slabfloor.floor") 352) none (.ref 185) .none)), #[]⟩) :: (nat_lit 187, ⟨(.type "tuple"), none, (.seq #[] 0), #[]⟩) :: (nat_lit 189, ⟨(.type "tuple"), none, (.seq #[(.str (Str.ofString "self") 438), (.str (Str.ofString "cell") 439), (.str (Str.ofString "found") 440), (.str (Str.ofString "other") 441)] 0), #[]⟩) :: (nat_lit 190, ⟨(.type "tuple"), none, (.seq #[] 0), #[]⟩) :: (nat_lit 192, ⟨(.type "code"), none, (.fields #[(.str (Str.ofString "beside") 435), (.str (Str.ofString "Floor.beside") 436), (.str (Str.ofString "/claim/cut.py") 437), (.int 104 0), (.int 2 0), (.int 0 0), (.int 0 0), (.int 3 0), (.ref 187), (.bool true), (.int 181 0), (.ref 188), .none, (.ref 189), (.ref 190), (.ref 191), (.int 442 0), (.int 104 0), (.str (Str.ofString "/claim/cut.py") 443)]), #[]⟩) :: (nat_lit 193, ⟨(.type "function"), none, (.func (fnD (inAt 19 6) (Str.ofString "Floor.beside") .none .none .none (.str (Str.ofString "slabfloor.floor") 352) none (.ref 192) .none)), #[]⟩) :: (nat_lit 194, ⟨(.type "tuple"), none, (.seq #[(.str (Str.ofString "high") 445), (.str (Str.ofString "rows") 446), (.str (Str.ofString "wide") 447)] 0), #[]⟩) :: (nat_lit 195, ⟨(.type "dict"), none, (.dict #[⟨PyData.keyHash P (Str.ofString "__module__"), (.str (Str.ofString "__module__") 377), (.str (Str.ofString "slabfloor.floor") 352)⟩, ⟨PyData.keyHash P (Str.ofString "__firstlineno__"), (.str (Str.ofString "__firstlineno__") 381), (.int 61 380)⟩, ⟨PyData.keyHash P (Str.ofString "__init__"), (.str (Str.ofString "__init__") 391), (.ref 153)⟩, ⟨PyData.keyHash P (Str.ofString "sign_of"), (.str (Str.ofString "sign_of") 399), (.ref 160)⟩, ⟨PyData.keyHash P (Str.ofString "has"), (.str (Str.ofString "has") 407), (.ref 167)⟩, ⟨PyData.keyHash P (Str.ofString "cells"), (.str (Str.ofString "cells") 413), (.ref 172)⟩, ⟨PyData.keyHash P (Str.ofString "shade"), (.str (Str.ofString "shade") 421), (.ref 179)⟩, ⟨PyData.keyHash P (Str.ofString "may"), (.str (Str.ofString "may") 434), (.ref 186)⟩, ⟨PyData.keyHash P (Str.ofString "beside"), (.str (Str.ofString "beside") 444), (.ref 193)⟩, ⟨PyData.keyHash P (Str.ofString "__static_attributes__"), (.str (Str.ofString "__static_attributes__") 448), (.ref 194)⟩, ⟨PyData.keyHash P (Str.ofString "__dict__"), (.str (Str.ofString "__dict__") 450), (.ref 197)⟩, ⟨PyData.keyHash P (Str.ofString "__weakref__"), (.str (Str.ofString "__weakref__") 452), (.ref 198)⟩, ⟨PyData.keyHash P (Str.ofString "__doc__"), (.str (Str.ofString "__doc__") 453), .none⟩] 4), #[]⟩) :: (nat_lit 196, ⟨(.type "type"), none, (.cls { name := (Str.ofString "Floor"), bases := [(.type "object")], mro := [(.ref 196), (.type "object")], ns := 195, qualname := (Str.ofString "Floor"), hasDict := true, slotNames := [], subclasses := [], abstract := false, collection := none, hasDel := false }), #[none, none, (some (.str (Str.ofString "Floor") 370)), (some (.str (Str.ofString "Floor") 378)), (some (.builtin "object.__new__")), (some (.bool true))]⟩) :: (nat_lit 197, ⟨(.type "getset_descriptor"), none, (.fields #[(.str (Str.ofString "__dict__") 449), (.ref 196), (.builtin "function.__dict__"), (.builtin "function.__dict__#set")]), #[]⟩) :: (nat_lit 198, ⟨(.type "getset_descriptor"), none, (.fields #[(.str (Str.ofString "__weakref__") 451), (.ref 196), (.builtin "ExceptionGroup.__weakref__"), .none]), #[]⟩) :: (nat_lit 208, ⟨(.type "tuple"), none, (.seq #[] 0), #[]⟩) :: (nat_lit 210, ⟨(.type "tuple"), none, (.seq #[(.str (Str.ofString "self") 473), (.str (Str.ofString "floor") 474)] 0), #[]⟩) :: (nat_lit 211, ⟨(.type "tuple"), none, (.seq #[] 0), #[]⟩) :: (nat_lit 213, ⟨(.type "code"), none, (.fields #[(.str (Str.ofString "__init__") 470), (.str (Str.ofString "Laying.__init__") 471), (.str (Str.ofString "/claim/cut.py") 472), (.int 115 0), (.int 2 0), (.int 0 0), (.int 0 0), (.int 3 0), (.ref 208), (.bool true), (.int 181 0), (.ref 209), .none, (.ref 210), (.ref 211), (.ref 212), (.int 475 0), (.int 115 0), (.str (Str.ofString "/claim/cut.py") 476)]), #[]⟩) :: (nat_lit 214, ⟨(.type "function"), none, (.func (fnD (inAt 21 0) (Str.ofString "Laying.__init__") .none .none .none (.str (Str.ofString "slabfloor.laying") 456) none (.ref 213) .none)), #[]⟩) :: (nat_lit 215, ⟨(.type "tuple"), none, (.seq #[] 0), #[]⟩) :: (nat_lit 217, ⟨(.type "tuple"), none, (.seq #[(.str (Str.ofString "self") 481), (.str (Str.ofString "cell") 482)] 0), #[]⟩) :: (nat_lit 218, ⟨(.type "tuple"), none, (.seq #[] 0), #[]⟩) :: (nat_lit 220, ⟨(.type "code"), none, (.fields #[(.str (Str.ofString "need_cell") 478), (.str (Str.ofString "Laying.need_cell") 479), (.str (Str.ofString "/claim/cut.py") 480), (.int 119 0), (.int 2 0), (.int 0 0), (.int 0 0), (.int 3 0), (.ref 215), (.bool true), (.int 181 0), (.ref 216), .none, (.ref 217), (.ref 218), (.ref 219), (.int 483 0), (.int 119 0), (.str (Str.ofString "/claim/cut.py") 484)]), #[]⟩) :: (nat_lit 221, ⟨(.type "function"), none, (.func (fnD (inAt 21 1) (Str.ofString "Laying.need_cell") .none .none .none (.str (Str.ofString "slabfloor.laying") 456) none (.ref 220) .none)), #[]⟩) :: (nat_lit 222, ⟨(.type "tuple"), none, (.seq #[] 0), #[]⟩) :: (nat_lit 224, ⟨(.type "tuple"), none, (.seq #[(.str (Str.ofString "self") 489), (.str (Str.ofString "one") 490), (.str (Str.ofString "other") 491)] 0), #[]⟩) :: (nat_lit 225, ⟨(.type "tuple"), none, (.seq #[] 0), #[]⟩) :: (nat_lit 227, ⟨(.type "code"), none, (.fields #[(.str (Str.ofString "put") 486), (.str (Str.ofString "Laying.put") 487), (.str (Str.ofString "/claim/cut.py") 488), (.int 123 0), (.int 3 0), (.int 0 0), (.int 0 0), (.int 3 0), (.ref 222), (.bool true), (.int 181 0), (.ref 223), .none, (.ref 224), (.ref 225), (.ref 226), (.int 492 0), (.int 123 0), (.str (Str.ofString "/claim/cut.py") 493)]), #[]⟩) :: (nat_lit 228, ⟨(.type "function"), none, (.func (fnD (inAt 21 2) (Str.ofString "Laying.put") .none .none .none (.str (Str.ofString "slabfloor.laying") 456) none (.ref 227) .none)), #[]⟩) :: (nat_lit 229, ⟨(.type "tuple"), none, (.seq #[] 0), #[]⟩) :: (nat_lit 231, ⟨(.type "tuple"), none, (.seq #[(.str (Str.ofString "self") 498), (.str (Str.ofString "cell") 499), (.str (Str.ofString "other") 500)] 0), #[]⟩) :: (nat_lit 232, ⟨(.type "tuple"), none, (.seq #[] 0), #[]⟩) :: (nat_lit 234, ⟨(.type "code"), none, (.fields #[(.str (Str.ofString "lift") 495), (.str (Str.ofString "Laying.lift") 496), (.str (Str.ofString "/claim/cut.py") 497), (.int 133 0), (.int 2 0), (.int 0 0), (.int 0 0), (.int 3 0), (.ref 229), (.bool true), (.int 181 0), (.ref 230), .none, (.ref 231), (.ref 232), (.ref 233), (.int 501 0), (.int 133 0), (.str (Str.ofString "/claim/cut.py") 502)]), #[]⟩) :: (nat_lit 235, ⟨(.type "function"), none, (.func (fnD (inAt 21 3) (Str.ofString "Laying.lift") .none .none .none (.str (Str.ofString "slabfloor.laying") 456) none (.ref 234) .none)), #[]⟩) :: (nat_lit 236, ⟨(.type "tuple"), none, (.seq #[] 0), #[]⟩) :: (nat_lit 239, ⟨(.type "code"), none, (.fields #[(.str (Str.ofString "bare") 504), (.str (Str.ofString "Laying.bare") 505), (.str (Str.ofString "/claim/cut.py") 506), (.int 140 0), (.int 1 0), (.int 0 0), (.int 0 0), (.int 3 0), (.ref 236), (.bool true), (.int 181 0), (.ref 237), .none, .none, .none, (.ref 238), (.int 507 0), (.int 140 0), (.str (Str.ofString "/claim/cut.py") 508)]), #[]⟩) :: (nat_lit 240, ⟨(.type "function"), none, (.func (fnD (inAt 21 4) (Str.ofString "Laying.bare") .none .none .none (.str (Str.ofString "slabfloor.laying") 456) none (.ref 239) .none)), #[]⟩) :: (nat_lit 241, ⟨(.type "tuple"), none, (.seq #[] 0), #[]⟩) :: (nat_lit 243, ⟨(.type "tuple"), none, (.seq #[(.str (Str.ofString "self") 513)] 0), #[]⟩) :: (nat_lit 244, ⟨(.type "tuple"), none, (.seq #[] 0), #[]⟩) :: (nat_lit 246, ⟨(.type "code"), none, (.fields #[(.str (Str.ofString "slabs") 510), (.str (Str.ofString "Laying.slabs") 511), (.str (Str.ofString "/claim/cut.py") 512), (.int 143 0), (.int 1 0), (.int 0 0), (.int 0 0), (.int 3 0), (.ref 241), (.bool true), (.int 181 0), (.ref 242), .none, (.ref 243), (.ref 244), (.ref 245), (.int 514 0), (.int 143 0), (.str (Str.ofString "/claim/cut.py") 515)]), #[]⟩) :: (nat_lit 247, ⟨(.type "function"), none, (.func (fnD (inAt 21 5) (Str.ofString "Laying.slabs") .none .none .none (.str (Str.ofString "slabfloor.laying") 456) none (.ref 246) .none)), #[]⟩) :: (nat_lit 248, ⟨(.type "tuple"), none, (.seq #[] 0), #[]⟩) :: (nat_lit 250, ⟨(.type "tuple"), none, (.seq #[(.str (Str.ofString "self") 520)] 0), #[]⟩) :: (nat_lit 251, ⟨(.type "tuple"), none, (.seq #[] 0), #[]⟩) :: (nat_lit 253, ⟨(.type "code"), none, (.fields #[(.str (Str.ofString "copied") 517), (.str (Str.ofString "Laying.copied") 518), (.str (Str.ofString "/claim/cut.py") 519), (.int 146 0), (.int 1 0), (.int 0 0), (.int 0 0), (.int 3 0), (.ref 248), (.bool true), (.int 181 0), (.ref 249), .none, (.ref 250), (.ref 251), (.ref 252), (.int 521 0), (.int 146 0), (.str (Str.ofString "/claim/cut.py") 522)]), #[]⟩) :: (nat_lit 254, ⟨(.type "function"), none, (.func (fnD (inAt 21 6) (Str.ofString "Laying.copied") .none .none .none (.str (Str.ofString "slabfloor.laying") 456) none (.ref 253) .none)), #[]⟩) :: (nat_lit 255, ⟨(.type "tuple"), none, (.seq #[(.str (Str.ofString "floor") 524), (.str (Str.ofString "over") 525)] 0), #[]⟩) :: (nat_lit 256, ⟨(.type "dict"), none, (.dict #[⟨PyData.keyHash P (Str.ofString "__module__"), (.str (Str.ofString "__module__") 465), (.str (Str.ofString "slabfloor.laying") 456)⟩, ⟨PyData.keyHash P (Str.ofString "__firstlineno__"), (.str (Str.ofString "__firstlineno__") 469), (.int 113 468)⟩, ⟨PyData.keyHash P (Str.ofString "__init__"), (.str (Str.ofString "__init__") 477), (.ref 214)⟩, ⟨PyData.keyHash P (Str.ofString "need_cell"), (.str (Str.ofString "need_cell") 485), (.ref 221)⟩, ⟨PyData.keyHash P (Str.ofString "put"), (.str (Str.ofString "put") 494), (.ref 228)⟩, ⟨PyData.keyHash P (Str.ofString "lift"), (.str (Str.ofString "lift") 503), (.ref 235)⟩, ⟨PyData.keyHash P (Str.ofString "bare"), (.str (Str.ofString "bare") 509), (.ref 240)⟩, ⟨PyData.keyHash P (Str.ofString "slabs"), (.str (Str.ofString "slabs") 516), (.ref 247)⟩, ⟨PyData.keyHash P (Str.ofString "copied"), (.str (Str.ofString "copied") 523), (.ref 254)⟩, ⟨PyData.keyHash P (Str.ofString "__static_attributes__"), (.str (Str.ofString "__static_attributes__") 526), (.ref 255)⟩, ⟨PyData.keyHash P (Str.ofString "__dict__"), (.str (Str.ofString "__dict__") 528), (.ref 258)⟩, ⟨PyData.keyHash P (Str.ofString "__weakref__"), (.str (Str.ofString "__weakref__") 530), (.ref 259)⟩, ⟨PyData.keyHash P (Str.ofString "__doc__"), (.str (Str.ofString "__doc__") 531), .none⟩] 4), #[]⟩) :: (nat_lit 257, ⟨(.type "type"), none, (.cls { name := (Str.ofString "Laying"), bases := [(.type "object")], mro := [(.ref 257), (.type "object")], ns := 256, qualname := (Str.ofString "Laying"), hasDict := true, slotNames := [], subclasses := [], abstract := false, collection := none, hasDel := false }), #[none, none, (some (.str (Str.ofString "Laying") 458)), (some (.str (Str.ofString "Laying") 466)), (some (.builtin "object.__new__")), (some (.bool true))]⟩) :: (nat_lit 258, ⟨(.type "getset_descriptor"), none, (.fields #[(.str (Str.ofString "__dict__") 527), (.ref 257), (.builtin "function.__dict__"), (.builtin "function.__dict__#set")]), #[]⟩) :: (nat_lit 259, ⟨(.type "getset_descriptor"), none, (.fields #[(.str (Str.ofString "__weakref__") 529), (.ref 257), (.builtin "ExceptionGroup.__weakref__"), .none]), #[]⟩) :: (nat_lit 262, ⟨(.type "tuple"), none, (.seq #[] 0), #[]⟩) :: (nat_lit 264, ⟨(.type "tuple"), none, (.seq #[(.str (Str.ofString "_law_script") 539), (.str (Str.ofString "_law_k") 540)] 0), #[]⟩) :: (nat_lit 265, ⟨(.type "tuple"), none, (.seq #[] 0), #[]⟩) :: (nat_lit 267, ⟨(.type "code"), none, (.fields #[(.str (Str.ofString "_law_cell_at") 536), (.str (Str.ofString "_law_cell_at") 537), (.str (Str.ofString "/claim/cut.py") 538), (.int 149 0), (.int 2 0), (.int 0 0), (.int 0 0), (.int 3 0), (.ref 262), (.bool true), (.int 181 0), (.ref 263), .none, (.ref 264), (.ref 265), (.ref 266), (.int 541 0), (.int 149 0), (.str (Str.ofString "/claim/cut.py") 542)]), #[]⟩) :: (nat_lit 268, ⟨(.type "function"), none, (.func (fnD (stAt 23) (Str.ofString "_law_cell_at") .none .none .none (.str (Str.ofString "law_uf030040_06") 534) none (.ref 267) .none)), #[]⟩) :: (nat_lit 269, ⟨(.type "tuple"), none, (.seq #[] 0), #[]⟩) :: (nat_lit 271, ⟨(.type "tuple"), none, (.seq #[(.str (Str.ofString "_law_script") 547), (.str (Str.ofString "_law_k") 548), (.str (Str.ofString "_law_base") 549)] 0), #[]⟩) :: (nat_lit 272, ⟨(.type "tuple"), none, (.seq #[] 0), #[]⟩) :: (nat_lit 274, ⟨(.type "code"), none, (.fields #[(.str (Str.ofString "_law_number") 544), (.str (Str.ofString "_law_number") 545), (.str (Str.ofString "/claim/cut.py") 546), (.int 153 0), (.int 2 0), (.int 0 0), (.int 0 0), (.int 3 0), (.ref 269), (.bool true), (.int 181 0), (.ref 270), .none, (.ref 271), (.ref 272), (.ref 273), (.int 550 0), (.int 153 0), (.str (Str.ofString "/claim/cut.py") 551)]), #[]⟩) :: (nat_lit 275, ⟨(.type "function"), none, (.func (fnD (stAt 24) (Str.ofString "_law_number") .none .none .none (.str (Str.ofString "law_uf030040_06") 534) none (.ref 274) .none)), #[]⟩) :: (nat_lit 276, ⟨(.type "tuple"), none, (.seq #[] 0), #[]⟩) :: (nat_lit 279, ⟨(.type "code"), none, (.fields #[(.str (Str.ofString "_law_rows") 553), (.str (Str.ofString "_law_rows") 554), (.str (Str.ofString "/claim/cut.py") 555), (.int 158 0), (.int 1 0), (.int 0 0), (.int 0 0), (.int 3 0), (.ref 276), (.bool true), (.int 181 0), (.ref 277), .none, .none, .none, (.ref 278), (.int 556 0), (.int 158 0), (.str (Str.ofString "/claim/cut.py") 557)]), #[]⟩) :: (nat_lit 280, ⟨(.type "function"), none, (.func (fnD (stAt 25) (Str.ofString "_law_rows") .none .none .none (.str (Str.ofString "law_uf030040_06") 534) none (.ref 279) .none)), #[]⟩) :: (nat_lit 281, ⟨(.type "tuple"), none, (.seq #[] 0), #[]⟩) :: (nat_lit 283, ⟨(.type "tuple"), none, (.seq #[(.str (Str.ofString "_law_rows_here") 562), (.str (Str.ofString "_law_one") 563), (.str (Str.ofString "_law_other") 564), (.str (Str.ofString "_law_wide") 565), (.str (Str.ofString "_law_a") 566), (.str (Str.ofString "_law_b") 567)] 0), #[]⟩) :: (nat_lit 284, ⟨(.type "tuple"), none, (.seq #[] 0), #[]⟩) :: (nat_lit 286, ⟨(.type "code"), none, (.fields #[(.str (Str.ofString "_law_may") 559), (.str (Str.ofString "_law_may") 560), (.str (Str.ofString "/claim/cut.py") 561), (.int 177 0), (.int 3 0), (.int 0 0), (.int 0 0), (.int 3 0), (.ref 281), (.bool true), (.int 181 0), (.ref 282), .none, (.ref 283), (.ref 284), (.ref 285), (.int 568 0), (.int 177 0), (.str (Str.ofString "/claim/cut.py") 569)]), #[]⟩) :: (nat_lit 287, ⟨(.type "function"), none, (.func (fnD (stAt 26) (Str.ofString "_law_may") .none .none .none (.str (Str.ofString "law_uf030040_06") 534) none (.ref 286) .none)), #[]⟩) :: (nat_lit 288, ⟨(.type "tuple"), none, (.seq #[] 0), #[]⟩) :: (nat_lit 291, ⟨(.type "code"), none, (.fields #[(.str (Str.ofString "_law_cells") 571), (.str (Str.ofString "_law_cells") 572), (.str (Str.ofString "/claim/cut.py") 573), (.int 188 0), (.int 1 0), (.int 0 0), (.int 0 0), (.int 3 0), (.ref 288), (.bool true), (.int 181 0), (.ref 289), .none, .none, .none, (.ref 290), (.int 574 0), (.int 188 0), (.str (Str.ofString "/claim/cut.py") 575)]), #[]⟩) :: (nat_lit 292, ⟨(.type "function"), none, (.func (fnD (stAt 27) (Str.ofString "_law_cells") .none .none .none (.str (Str.ofString "law_uf030040_06") 534) none (.ref 291) .none)), #[]⟩) :: (nat_lit 293, ⟨(.type "tuple"), none, (.seq #[] 0), #[]⟩) :: (nat_lit 296, ⟨(.type "code"), none, (.fields #[(.str (Str.ofString "_law_beside") 577), (.str (Str.ofString "_law_beside") 578), (.str (Str.ofString "/claim/cut.py") 579), (.int 191 0), (.int 2 0), (.int 0 0), (.int 0 0), (.int 3 0), (.ref 293), (.bool true), (.int 181 0), (.ref 294), .none, .none, .none, (.ref 295), (.int 580 0), (.int 191 0), (.str (Str.ofString "/claim/cut.py") 581)]), #[]⟩) :: (nat_lit 297, ⟨(.type "function"), none, (.func (fnD (stAt 28) (Str.ofString "_law_beside") .none .none .none (.str (Str.ofString "law_uf030040_06") 534) none (.ref 296) .none)), #[]⟩) :: (nat_lit 298, ⟨(.type "tuple"), none, (.seq #[] 0), #[]⟩) :: (nat_lit 300, ⟨(.type "tuple"), none, (.seq #[(.str (Str.ofString "_law_found") 586)] 0), #[]⟩) :: (nat_lit 301, ⟨(.type "tuple"), none, (.seq #[] 0), #[]⟩) :: (nat_lit 303, ⟨(.type "code"), none, (.fields #[(.str (Str.ofString "_law_whole") 583), (.str (Str.ofString "_law_whole") 584), (.str (Str.ofString "/claim/cut.py") 585), (.int 197 0), (.int 1 0), (.int 0 0), (.int 0 0), (.int 3 0), (.ref 298), (.bool true), (.int 181 0), (.ref 299), .none, (.ref 300), (.ref 301), (.ref 302), (.int 587 0), (.int 197 0), (.str (Str.ofString "/claim/cut.py") 588)]), #[]⟩) :: (nat_lit 304, ⟨(.type "function"), none, (.func (fnD (stAt 29) (Str.ofString "_law_whole") .none .none .none (.str (Str.ofString "law_uf030040_06") 534) none (.ref 303) .none)), #[]⟩) :: (nat_lit 305, ⟨(.type "tuple"), none, (.seq #[] 0), #[]⟩) :: (nat_lit 308, ⟨(.type "code"), none, (.fields #[(.str (Str.ofString "_law_over") 590), (.str (Str.ofString "_law_over") 591), (.str (Str.ofString "/claim/cut.py") 592), (.int 199 0), (.int 3 0), (.int 0 0), (.int 0 0), (.int 3 0), (.ref 305), (.bool true), (.int 181 0), (.ref 306), .none, .none, .none, (.ref 307), (.int 593 0), (.int 199 0), (.str (Str.ofString "/claim/cut.py") 594)]), #[]⟩) :: (nat_lit 309, ⟨(.type "function"), none, (.func (fnD (stAt 30) (Str.ofString "_law_over") .none .none .none (.str (Str.ofString "law_uf030040_06") 534) none (.ref 308) .none)), #[]⟩) :: (nat_lit 310, ⟨(.type "tuple"), none, (.seq #[] 0), #[]⟩) :: (nat_lit 312, ⟨(.type "tuple"), none, (.seq #[(.str (Str.ofString "_law_floor") 599), (.str (Str.ofString "_law_over_here") 600), (.str (Str.ofString "_law_laying") 601), (.str (Str.ofString "_law_cell") 602)] 0), #[]⟩) :: (nat_lit 313, ⟨(.type "tuple"), none, (.seq #[] 0), #[]⟩) :: (nat_lit 315, ⟨(.type "code"), none, (.fields #[(.str (Str.ofString "_law_made") 596), (.str (Str.ofString "_law_made") 597), (.str (Str.ofString "/claim/cut.py") 598), (.int 211 0), (.int 2 0), (.int 0 0), (.int 0 0), (.int 3 0), (.ref 310), (.bool true), (.int 181 0), (.ref 311), .none, (.ref 312), (.ref 313), (.ref 314), (.int 603 0), (.int 211 0), (.str (Str.ofString "/claim/cut.py") 604)]), #[]⟩) :: (nat_lit 316, ⟨(.type "function"), none, (.func (fnD (stAt 31) (Str.ofString "_law_made") .none .none .none (.str (Str.ofString "law_uf030040_06") 534) none (.ref 315) .none)), #[]⟩) :: (nat_lit 317, ⟨(.type "tuple"), none, (.seq #[] 0), #[]⟩) :: (nat_lit 319, ⟨(.type "tuple"), none, (.seq #[(.str (Str.ofString "_law_rows_here") 609), (.str (Str.ofString "_law_over_here") 610), (.str (Str.ofString "_law_shade") 611), (.str (Str.ofString "_law_wide") 612), (.str (Str.ofString "_law_found") 613), (.str (Str.ofString "_law_waiting") 614), (.str (Str.ofString "_law_cell") 615), (.str (Str.ofString "_law_at") 616), (.str (Str.ofString "_law_other") 617)] 0), #[]⟩) :: (nat_lit 320, ⟨(.type "tuple"), none, (.seq #[] 0), #[]⟩) :: (nat_lit 322, ⟨(.type "code"), none, (.fields #[(.str (Str.ofString "_law_reached") 606), (.str (Str.ofString "_law_reached") 607), (.str (Str.ofString "/claim/cut.py") 608), (.int 217 0), (.int 3 0), (.int 0 0), (.int 0 0), (.int 3 0), (.ref 317), (.bool true), (.int 181 0), (.ref 318), .none, (.ref 319), (.ref 320), (.ref 321), (.int 618 0), (.int 217 0), (.str (Str.ofString "/claim/cut.py") 619)]), #[]⟩) :: (nat_lit 323, ⟨(.type "function"), none, (.func (fnD (stAt 32) (Str.ofString "_law_reached") .none .none .none (.str (Str.ofString "law_uf030040_06") 534) none (.ref 322) .none)), #[]⟩) :: (nat_lit 324, ⟨(.type "tuple"), none, (.seq #[] 0), #[]⟩) :: (nat_lit 326, ⟨(.type "tuple"), none, (.seq #[(.str (Str.ofString "_law_rows_here") 624), (.str (Str.ofString "_law_over_here") 625), (.str (Str.ofString "_law_shade") 626), (.str (Str.ofString "_law_found") 627), (.str (Str.ofString "_law_cell") 628), (.str (Str.ofString "_law_wide") 629), (.str (Str.ofString "_law_ahead") 630)] 0), #[]⟩) :: (nat_lit 327, ⟨(.type "tuple"), none, (.seq #[] 0), #[]⟩) :: (nat_lit 329, ⟨(.type "code"), none, (.fields #[(.str (Str.ofString "_law_link") 621), (.str (Str.ofString "_law_link") 622), (.str (Str.ofString "/claim/cut.py") 623), (.int 234 0), (.int 5 0), (.int 0 0), (.int 0 0), (.int 3 0), (.ref 324), (.bool true), (.int 181 0), (.ref 325), .none, (.ref 326), (.ref 327), (.ref 328), (.int 631 0), (.int 234 0), (.str (Str.ofString "/claim/cut.py") 632)]), #[]⟩) :: (nat_lit 330, ⟨(.type "function"), none, (.func (fnD (stAt 33) (Str.ofString "_law_link") .none .none .none (.str (Str.ofString "law_uf030040_06") 534) none (.ref 329) .none)), #[]⟩) :: (nat_lit 331, ⟨(.type "tuple"), none, (.seq #[] 0), #[]⟩) :: (nat_lit 333, ⟨(.type "tuple"), none, (.seq #[(.str (Str.ofString "_law_rows_here") 637), (.str (Str.ofString "_law_over_here") 638), (.str (Str.ofString "_law_found") 639), (.str (Str.ofString "_law_way_here") 640), (.str (Str.ofString "_law_cell") 641), (.str (Str.ofString "_law_k") 642)] 0), #[]⟩) :: (nat_lit 334, ⟨(.type "tuple"), none, (.seq #[] 0), #[]⟩) :: (nat_lit 336, ⟨(.type "code"), none, (.fields #[(.str (Str.ofString "_law_way") 634), (.str (Str.ofString "_law_way") 635), (.str (Str.ofString "/claim/cut.py") 636), (.int 244 0), (.int 5 0), (.int 0 0), (.int 0 0), (.int 3 0), (.ref 331), (.bool true), (.int 181 0), (.ref 332), .none, (.ref 333), (.ref 334), (.ref 335), (.int 643 0), (.int 244 0), (.str (Str.ofString "/claim/cut.py") 644)]), #[]⟩) :: (nat_lit 337, ⟨(.type "function"), none, (.func (fnD (stAt 34) (Str.ofString "_law_way") .none .none .none (.str (Str.ofString "law_uf030040_06") 534) none (.ref 336) .none)), #[]⟩) :: (nat_lit 338, ⟨(.type "tuple"), none, (.seq #[] 0), #[]⟩) :: (nat_lit 340, ⟨(.type "tuple"), none, (.seq #[(.str (Str.ofString "_law_laying") 649), (.str (Str.ofString "_law_over_here") 650), (.str (Str.ofString "_law_less_here") 651), (.str (Str.ofString "_law_cell") 652)] 0), #[]⟩) :: (nat_lit 341, ⟨(.type "tuple"), none, (.seq #[] 0), #[]⟩) :: (nat_lit 343, ⟨(.type "code"), none, (.fields #[(.str (Str.ofString "_law_less") 646), (.str (Str.ofString "_law_less") 647), (.str (Str.ofString "/claim/cut.py") 648), (.int 255 0), (.int 2 0), (.int 0 0), (.int 0 0), (.int 3 0), (.ref 338), (.bool true), (.int 181 0), (.ref 339), .none, (.ref 340), (.ref 341), (.ref 342), (.int 653 0), (.int 255 0), (.str (Str.ofString "/claim/cut.py") 654)]), #[]⟩) :: (nat_lit 344, ⟨(.type "function"), none, (.func (fnD (stAt 35) (Str.ofString "_law_less") .none .none .none (.str (Str.ofString "law_uf030040_06") 534) none (.ref 343) .none)), #[]⟩) :: (nat_lit 345, ⟨(.type "tuple"), none, (.seq #[] 0), #[]⟩) :: (nat_lit 347, ⟨(.type "tuple"), none, (.seq #[(.str (Str.ofString "_law_script") 659), (.str (Str.ofString "_law_rows_here") 660), (.str (Str.ofString "_law_over_here") 661), (.str (Str.ofString "_law_laying") 662), (.str (Str.ofString "_law_shade") 663), (.str (Str.ofString "_law_found") 664), (.str (Str.ofString "_law_due") 665), (.str (Str.ofString "_law_cell") 666), (.str (Str.ofString "_law_told") 667), (.str (Str.ofString "_law_cells_here") 668), (.str (Str.ofString "_law_k") 669), (.str (Str.ofString "_law_less_here") 670), (.str (Str.ofString "_law_again") 671)] 0), #[]⟩) :: (nat_lit 348, ⟨(.type "tuple"), none, (.seq #[] 0), #[]⟩) :: (nat_lit 350, ⟨(.type "code"), none, (.fields #[(.str (Str.ofString "law") 656), (.str (Str.ofString "law") 657), (.str (Str.ofString "/claim/cut.py") 658), (.int 262 0), (.int 1 0), (.int 0 0), (.int 0 0), (.int 3 0), (.ref 345), (.bool true), (.int 181 0), (.ref 346), .none, (.ref 347), (.ref 348), (.ref 349), (.int 672 0), (.int 262 0), (.str (Str.ofString "/claim/cut.py") 673)]), #[]⟩) :: (nat_lit 351, ⟨(.type "function"), none, (.func (fnD (stAt 36) (Str.ofString "law") .none .none .none (.str (Str.ofString "law_uf030040_06") 534) none (.ref 350) .none)), #[]⟩) :: []
noncomputable def vw : Program := PySem.W.view PP [0, 2, 3, 5, 6, 7, 8, 9, 10, 11, 12, 14, 15, 16, 17, 18, 19, 21, 23, 24, 25, 26, 27, 28, 29, 30, 31, 32, 33, 34, 35, 36]
noncomputable def hk : Hook := kHook kH kA (fun _ => by kernel_rfl)
theorem both_map {α β γ : Type} {o : Option α} {f : α → β} {g : α → γ} {a : β} {b : γ} (h1 : o.map f = some a) (h2 : o.map g = some b) : o.map (fun s => (f s, g s)) = some (a, b) := by
  cases o with
  | none => cases h1
  | some x => cases h1; cases h2; rfl
noncomputable def topBy (run : type_of% @topRun) (tb : String → Option Builtin) (p : Program) (w : World) (N : Nat) (s₀ : Shared) : Option Shared :=
  match s₀.heap.isNs mainGlobals && s₀.gens.size == 0 with
  | true => (run tb p w s₀.heap.objs.size (s₀.heap.nsMap mainGlobals "__annotations__") N s₀ (topStub p)).bind fun s₁ => match staticsOk (importedModules p.main.body) s₀.heap s₁.heap && namesBound p s₁.heap && gensDone s₁ && laidKept s₀.heap s₁.heap with
      | true => some s₁
      | false => none
  | false => none
noncomputable abbrev tpQ (w : World) : Shared → Option Shared := topBy PySem.W.Fast.tw14082659384304107361 PySem.W.Fast.tw14364793385576792824 PP w 6438
theorem tp_by (w : World) {r : type_of% @topRun} {t : String → Option Builtin} (h1 : @topRun = r) (h2 : treeTable = t) : topFrom treeTable PP w 6438 = topBy r t PP w 6438 := by
  subst h1 h2
  rfl
theorem via_q {α : Type} {o : Option Shared} {f g : Shared → Option Shared} {h k : Shared → α} {y : Option α} (e1 : f = g) (e2 : h = k) (q : (o.bind g).map k = y) : (o.bind f).map h = y := by
  subst e1 e2
  exact q
noncomputable abbrev osQ := PySem.W.Fast.tw4187177175401517315 vw [] (importedModules PP.main.body) (fun s => xlAt vw [] s && recOk (RowW.records PySem.Challenge.rw_uf030040_06.row.toRowW) s) true
theorem os_q : openSeen vw [] (importedModules PP.main.body) (fun s => xlAt vw [] s && recOk (RowW.records PySem.Challenge.rw_uf030040_06.row.toRowW) s) true = osQ := by
  unfold osQ
  rw [PySem.W.Fast.te4187177175401517315]
theorem leftq0 (w : World) : ((fencedOpening treeTable PP w 6438).bind (tpQ w)).map osQ = some (expectedOf vw, bltViewBooted, true, true, pinGoodD (drecsOf vw), plainGoodE vw (looseW vw []), plainGoodD vw [], wideGood vw, clsGoodW vw []) := by kernel_rfl
theorem left0 (w : World) : (openEnds treeTable PP w 6438).map (openSeen vw [] (importedModules PP.main.body) (fun s => xlAt vw [] s && recOk (RowW.records PySem.Challenge.rw_uf030040_06.row.toRowW) s) true) = some (openGood vw []) := via_q (o := fencedOpening treeTable PP w 6438) (tp_by _ PySem.W.Fast.te14082659384304107361 PySem.W.Fast.te14364793385576792824) os_q (leftq0 w)
theorem leftq1 (w : World) : ((fencedOpening treeTable PP w 6438).bind (tpQ w)).map hk.obs = some (hk.val w) := by kernel_rfl
theorem left1 (w : World) : (openEnds treeTable PP w 6438).map hk.obs = some (hk.val w) := via_q (o := fencedOpening treeTable PP w 6438) (tp_by _ PySem.W.Fast.te14082659384304107361 PySem.W.Fast.te14364793385576792824) rfl (leftq1 w)
theorem left : LeftO PP vw [] (fun s => xlAt vw [] s && recOk (RowW.records PySem.Challenge.rw_uf030040_06.row.toRowW) s) hk.obs hk.val 6438 := fun w => both_map (left0 w) (left1 w)

theorem dS : (defOf vw (Str.ofString "law")).isSome = true := by kernel_rfl
noncomputable def dL : DefRec × List (Str × PySem.Expr) := (defOf vw (Str.ofString "law")).get dS
theorem hd (walk : WalkO vw [] (XL vw []) hk.says PySem.Challenge.rw_uf030040_06.row.toRowW dL.1 dL.2 fun f vs => PySem.call f vs) : PySem.Challenge.rw_uf030040_06.Holds := by
  w_on
  refine holds_law (by kernel_rfl) fun said => ?_
  refine holds_open (q := vw) (loose := []) (Xt := fun s => xlAt vw [] s && recOk (RowW.records PySem.Challenge.rw_uf030040_06.row.toRowW) s) (XP := XL vw []) (Yf := hk.obs) (Ya := hk.val) (YP := hk.says) (d := dL.1) (kwd := dL.2) (N := 6438) left hk.of hk.keeps (fun s e => xl_of s (Bool.and_eq_true_iff.mp e).1) XL.keeps (by kernel_rfl) (by kernel_rfl) (by kernel_rfl) (fun s e => recFacts_of (Bool.and_eq_true_iff.mp e).2) (by kernel_rfl) said (by kernel_rfl) ⟨rfl, rfl, rfl, rfl, rfl, by decide +kernel⟩ ?hw walk
  w_witness2
end Fl

namespace Fl
open PySem PyProof.Rows
def gallop' : Bool → Keyed → Array Keyed → Nat → Nat → Nat → StateT SortSt Sem (Option Nat) := sortPriv% PySem.Builtin.gallop
def mergeLo' : Array Keyed → Array Keyed → StateT SortSt Sem (Array Keyed) := sortPriv% PySem.Builtin.mergeLo
def mergeHi' : Array Keyed → Array Keyed → StateT SortSt Sem (Array Keyed) := sortPriv% PySem.Builtin.mergeHi
/-- ordered by a measure -/
def Srt {α : Type} (f : α → Int) (l : List α) : Prop := l.Pairwise fun p q => f p ≤ f q
def Low {α : Type} (f : α → Int) (l r : List α) : Prop := ∀ p ∈ l, ∀ q ∈ r, f p ≤ f q

section
variable {α : Type} {f : α → Int}
theorem Srt.append {l r : List α} (a : Srt f l) (b : Srt f r) (c : Low f l r) : Srt f (l ++ r) := List.pairwise_append.mpr ⟨a, b, c⟩
theorem Srt.split {l r : List α} (a : Srt f (l ++ r)) : Srt f l ∧ Srt f r ∧ Low f l r := List.pairwise_append.mp a
theorem Low.app {l r t : List α} (a : Low f l t) (b : Low f r t) : Low f (l ++ r) t := fun p hp q hq => (List.mem_append.mp hp).elim (fun h => a p h q hq) fun h => b p h q hq
theorem Low.app' {l r t : List α} (a : Low f l r) (b : Low f l t) : Low f l (r ++ t) := fun p hp q hq => (List.mem_append.mp hq).elim (fun h => a p hp q h) fun h => b p hp q h
theorem Low.left {l r t : List α} (a : Low f l (r ++ t)) : Low f l r := fun p hp q hq => a p hp q (List.mem_append_left _ hq)
theorem Low.right {l r t : List α} (a : Low f l (r ++ t)) : Low f l t := fun p hp q hq => a p hp q (List.mem_append_right _ hq)
theorem Low.nil {l : List α} : Low f l [] := fun _ _ _ h => nomatch h
theorem Low.nil' {l : List α} : Low f [] l := fun _ h => nomatch h

/-- the state of a merge from below: what is out, what is left of either -/
structure MI (f : α → Int) (X Y O U V : List α) : Prop where
  perm : (O ++ U ++ V).Perm (X ++ Y)
  so : Srt f O
  su : Srt f U
  sv : Srt f V
  ou : Low f O U
  ov : Low f O V

theorem MI.takeU {X Y O T D V : List α} (h : MI f X Y O (T ++ D) V) (c : Low f T V) : MI f X Y (O ++ T) D V :=
  ⟨by simpa [List.append_assoc] using h.perm, h.so.append h.su.split.1 h.ou.left, h.su.split.2.1, h.sv, h.ou.right.app h.su.split.2.2, h.ov.app c⟩
theorem MI.takeV {X Y O U T D : List α} (h : MI f X Y O U (T ++ D)) (c : Low f T U) : MI f X Y (O ++ T) U D :=
  ⟨by
    refine List.Perm.trans ?_ h.perm
    rw [List.append_assoc, List.append_assoc, List.append_assoc]
    refine List.Perm.append_left _ ?_
    rw [← List.append_assoc, ← List.append_assoc]
    exact List.Perm.append_right _ List.perm_append_comm, h.so.append h.sv.split.1 h.ov.left, h.su, h.sv.split.2.1, h.ou.app c, h.ov.right.app h.sv.split.2.2⟩
theorem MI.endU {X Y O U : List α} (h : MI f X Y O U []) : (O ++ U).Perm (X ++ Y) ∧ Srt f (O ++ U) :=
  ⟨by simpa using h.perm, h.so.append h.su h.ou⟩
theorem MI.endVU {X Y O U V : List α} (h : MI f X Y O U V) (c : Low f V U) : (O ++ V ++ U).Perm (X ++ Y) ∧ Srt f (O ++ V ++ U) :=
  ⟨by
    refine List.Perm.trans ?_ h.perm
    rw [List.append_assoc, List.append_assoc]
    exact List.Perm.append_left _ List.perm_append_comm, (h.so.append h.sv h.ov).append h.su (h.ou.app c)⟩
theorem MI.endV {X Y O V : List α} (h : MI f X Y O [] V) : (O ++ V).Perm (X ++ Y) ∧ Srt f (O ++ V) :=
  ⟨by simpa using h.perm, h.so.append h.sv h.ov⟩

/-- the state of a merge from above -/
structure MH (f : α → Int) (X Y U V R : List α) : Prop where
  perm : (U ++ V ++ R).Perm (X ++ Y)
  so : Srt f R
  su : Srt f U
  sv : Srt f V
  ou : Low f U R
  ov : Low f V R
theorem MH.takeU {X Y D T V R : List α} (h : MH f X Y (D ++ T) V R) (c : Low f V T) : MH f X Y D V (T ++ R) :=
  ⟨by
    refine List.Perm.trans ?_ h.perm
    rw [List.append_assoc, List.append_assoc, List.append_assoc]
    refine List.Perm.append_left _ ?_
    rw [← List.append_assoc, ← List.append_assoc]
    exact List.Perm.append_right _ List.perm_append_comm, Srt.append h.su.split.2.1 h.so (fun p hp q hq => h.ou p (List.mem_append_right _ hp) q hq), h.su.split.1, h.sv,
   h.su.split.2.2.app' fun p hp q hq => h.ou p (List.mem_append_left _ hp) q hq, c.app' h.ov⟩
theorem MH.takeV {X Y U D T R : List α} (h : MH f X Y U (D ++ T) R) (c : Low f U T) : MH f X Y U D (T ++ R) :=
  ⟨by simpa [List.append_assoc] using h.perm, Srt.append h.sv.split.2.1 h.so (fun p hp q hq => h.ov p (List.mem_append_right _ hp) q hq), h.su, h.sv.split.1,
   c.app' h.ou, h.sv.split.2.2.app' fun p hp q hq => h.ov p (List.mem_append_left _ hp) q hq⟩
theorem MH.endV {X Y V R : List α} (h : MH f X Y [] V R) : (V ++ R).Perm (X ++ Y) ∧ Srt f (V ++ R) := ⟨by simpa using h.perm, h.sv.append h.so h.ov⟩
theorem MH.endU {X Y U R : List α} (h : MH f X Y U [] R) : (U ++ R).Perm (X ++ Y) ∧ Srt f (U ++ R) := ⟨by simpa using h.perm, h.su.append h.so h.ou⟩
theorem MH.endVU {X Y U V R : List α} (h : MH f X Y U V R) (c : Low f V U) : (V ++ U ++ R).Perm (X ++ Y) ∧ Srt f (V ++ U ++ R) :=
  ⟨(List.Perm.append_right _ List.perm_append_comm).trans h.perm, (h.sv.append h.su c).append h.so (h.ov.app h.ou)⟩
end
section
variable {M : Model} {A : Around} {E : Value → Shared → Prop} {s : Shared} {σ : Type}
theorem wpS_to {α : Type} {m : StateT σ Sem α} {Q : α → σ → Prop} {st : σ} (h : wpS M A E s m Q st) : wpAny M A (m st) (fun r s' => s' = s ∧ Q r.1 r.2) E s := h
theorem wpS_from {α : Type} {m : StateT σ Sem α} {Q : α → σ → Prop} {st : σ} (h : wpAny M A (m st) (fun r s' => s' = s ∧ Q r.1 r.2) E s) : wpS M A E s m Q st := h
end
theorem intAt {xs : Array Keyed} (h0 : IntKeys xs) {i : Nat} (hi : i < xs.size) : ∃ t q, xs[i]? = some (.int (K xs i) t, q) := by
  obtain ⟨n, t, hn⟩ := h0 xs[i] (by simp)
  have e : xs[i]? = some xs[i] := getElem?_pos _ i hi
  refine ⟨t, xs[i].2, ?_⟩
  have e2 : xs[i] = (.int n t, xs[i].2) := Prod.ext hn rfl
  unfold PyProof.Rows.K
  rw [e, e2]; rfl

section
variable {prog : Program} {w : World} {A : Around} {E : Value → Shared → Prop} {s : Shared} {a₀ : Array Keyed} {st : SortSt}
theorem wpS_elem {xs : Array Keyed} {i : Nat} {p : Keyed} {Q : Keyed → SortSt → Prop} (e : xs[i]? = some p) (h : Q p st) : wpS (model prog w) A E s (elem' xs i) Q st := by
  rw [elem'_eq, e]; exact wpS_pure h
theorem wpS_ltI {a b : Int} {t u : Tok} {p q : Value} {Q : Option Bool → SortSt → Prop} (hk : kindOf st = oneType') (h : Q (some (decide (a < b))) st) :
    wpS (model prog w) A E s (lt' (.int a t, p) (.int b u, q)) Q st := by
  rw [lt'_eq]
  refine wpS_bind (wpS_get ?_)
  rw [hk, keyLt'_oneType]
  refine wpS_bind (wpS_lift (wpAny_attempt (oneLt_int ⟨rfl, ?_⟩)))
  exact wpS_pure h
/-- how a gallop asks -/
def Bey (left : Bool) (x y : Int) : Bool := if left then decide (x < y) else !decide (y < x)
theorem Bey.mono {left : Bool} {x x' y : Int} (h : x' ≤ x) (b : Bey left x y = true) : Bey left x' y = true := by
  unfold Bey at b ⊢; cases left <;> simp at b ⊢ <;> lia
theorem wpS_bey {left : Bool} {arr : Array Keyed} {j : Nat} {y : Int} {u : Tok} {q : Value} {Q : Option Bool → SortSt → Prop} (hk : kindOf st = oneType') (h0 : IntKeys arr) (hj : j < arr.size)
    (h : Q (some (Bey left (K arr j) y)) st) :
    wpS (model prog w) A E s (do
      let x ← elem' arr j
      if left = true then lt' x (.int y u, q) else do
        let z ← lt' (.int y u, q) x
        pure (Option.map (fun x => !x) z)) Q st := by
  obtain ⟨t, p, e⟩ := intAt h0 hj
  refine wpS_bind (wpS_elem e ?_)
  cases left with
  | true => rw [if_pos rfl]; exact wpS_ltI hk h
  | false => rw [if_neg (by decide)]; exact wpS_bind (wpS_ltI hk (wpS_pure h))

theorem wpS_gallop {left : Bool} {arr : Array Keyed} {base n hint : Nat} {y : Int} {u : Tok} {q : Value} {Q : Option Nat → SortSt → Prop} (hk : kindOf st = oneType') (h0 : IntKeys arr) (hn : base + n ≤ arr.size) (hh : hint < n)
    (hs : ∀ i j, i ≤ j → j < n → K arr (base + i) ≤ K arr (base + j))
    (h : ∀ k, k ≤ n → (∀ i, i < k → Bey left (K arr (base + i)) y = true) → (∀ i, k ≤ i → i < n → Bey left (K arr (base + i)) y = false) → Q (some k) st) :
    wpS (model prog w) A E s (gallop' left (.int y u, q) arr base n hint) Q st := by
  have up : ∀ {i j : Nat}, i ≤ j → j < n → Bey left (K arr (base + j)) y = true → Bey left (K arr (base + i)) y = true := fun a b c => Bey.mono (hs _ _ a b) c
  have dn : ∀ {i j : Nat}, i ≤ j → j < n → Bey left (K arr (base + i)) y = false → Bey left (K arr (base + j)) y = false := fun {i j} a b c => by
    cases e : Bey left (K arr (base + j)) y with
    | false => rfl
    | true => rw [up a b e] at c; exact nomatch c
  refine wpS_from ?_
  wp_delta
  wp_delta
  refine wpS_to ?_
  refine wpS_bind (wpS_bey hk h0 (by lia) ?_)
  dsimp -zeta only
  extract_lets jp m1 m2
  have hjp : ∀ r a b lo hi, lo ≤ hi → hi ≤ n → (∀ i, i < lo → Bey left (K arr (base + i)) y = true) → (∀ i, hi ≤ i → i < n → Bey left (K arr (base + i)) y = false) → wpS (model prog w) A E s (jp r a b lo hi) Q st := by
    intro r a b lo hi h1 h2 h3 h4
    dsimp only [jp]
    refine wpS_bind (wpS_mono (wpS_forRange
      (I := fun x c st' => st' = st ∧ ∃ l r, c = (none, l, r) ∧ l ≤ r ∧ r ≤ n ∧ r - l ≤ n - x ∧ (∀ i, i < l → Bey left (K arr (base + i)) y = true) ∧ (∀ i, r ≤ i → i < n → Bey left (K arr (base + i)) y = false))
      (Q := fun c st' => st' = st ∧ ∃ l, c = (none, l, l) ∧ l ≤ n ∧ (∀ i, i < l → Bey left (K arr (base + i)) y = true) ∧ (∀ i, l ≤ i → i < n → Bey left (K arr (base + i)) y = false)) ?_ ?_ ⟨rfl, lo, hi, rfl, h1, h2, by lia, h3, h4⟩) ?_)
    · rintro x c st' _ hx ⟨rfl, l, r, rfl, a1, a2, a3, a4, a5⟩
      dsimp only
      by_cases hg : l ≥ r
      · rw [if_pos hg]
        obtain rfl : l = r := by lia
        exact wpS_pure ⟨rfl, l, rfl, a2, a4, a5⟩
      · rw [if_neg hg]
        refine wpS_bind (wpS_bey hk h0 (by lia) ?_)
        cases e : Bey left (K arr (base + (l + (r - l) / 2))) y with
        | true => exact wpS_pure ⟨rfl, _, r, rfl, by lia, a2, by lia, fun i hi => up (show i ≤ l + (r - l) / 2 by lia) (by lia) e, a5⟩
        | false => exact wpS_pure ⟨rfl, l, _, rfl, by lia, by lia, by lia, a4, fun i hi hin => dn hi hin e⟩
    · rintro c st' ⟨rfl, l, r, rfl, a1, a2, a3, a4, a5⟩
      obtain rfl : l = r := by lia
      exact ⟨rfl, l, rfl, a2, a4, a5⟩
    · rintro c st' ⟨rfl, l, rfl, a2, a4, a5⟩
      exact wpS_pure (h l a2 a4 a5)
  clear_value jp
  cases e : Bey left (K arr (base + hint)) y with
  | true =>
    rw [if_pos rfl]
    dsimp only
    refine wpS_bind (wpS_mono (wpS_forRange
      (I := fun x c st' => st' = st ∧ ∃ l o, c = (none, l, o) ∧ l < o ∧ x < o ∧ hint + l < n ∧ Bey left (K arr (base + (hint + l))) y = true)
      (Q := fun c st' => st' = st ∧ ∃ l o, c = (none, l, o) ∧ l < o ∧ hint + l < n ∧ Bey left (K arr (base + (hint + l))) y = true ∧ (hint + o < n → Bey left (K arr (base + (hint + o))) y = false)) ?_ ?_ ⟨rfl, 0, 1, rfl, by lia, by lia, by lia, e⟩) ?_)
    · rintro x c st' _ hx ⟨rfl, l, o, rfl, a1, a2, a3, a4⟩
      dsimp only
      by_cases hg : o ≥ m1
      · rw [if_pos hg]
        exact wpS_pure ⟨rfl, l, o, rfl, a1, a3, a4, fun hc => by lia⟩
      · rw [if_neg hg]
        refine wpS_bind (wpS_bey hk h0 (by lia) ?_)
        cases e : Bey left (K arr (base + (hint + o))) y with
        | true => exact wpS_pure ⟨rfl, o, _, rfl, by lia, by lia, by lia, e⟩
        | false => exact wpS_pure ⟨rfl, l, o, rfl, a1, a3, a4, fun _ => e⟩
    · rintro c st' ⟨rfl, l, o, rfl, a1, a2, a3, a4⟩
      exact ⟨rfl, l, o, rfl, a1, a3, a4, fun hc => by lia⟩
    · rintro c st' ⟨rfl, l, o, rfl, a1, a3, a4, a5⟩
      dsimp only
      refine hjp _ _ _ _ _ (by lia) (by lia) (fun i hi => up (show i ≤ hint + l by lia) a3 a4) fun i hi hin => dn (show hint + o ≤ i by lia) hin (a5 (by lia))
  | false =>
    rw [if_neg (by decide)]
    dsimp only
    refine wpS_bind (wpS_mono (wpS_forRange
      (I := fun x c st' => st' = st ∧ ∃ l o, c = (none, l, o) ∧ l < o ∧ x < o ∧ l ≤ hint ∧ Bey left (K arr (base + (hint - l))) y = false)
      (Q := fun c st' => st' = st ∧ ∃ l o, c = (none, l, o) ∧ l < o ∧ l ≤ hint ∧ Bey left (K arr (base + (hint - l))) y = false ∧ (o ≤ hint → Bey left (K arr (base + (hint - o))) y = true)) ?_ ?_ ⟨rfl, 0, 1, rfl, by lia, by lia, by lia, e⟩) ?_)
    · rintro x c st' _ hx ⟨rfl, l, o, rfl, a1, a2, a3, a4⟩
      dsimp only
      by_cases hg : o ≥ m2
      · rw [if_pos hg]
        exact wpS_pure ⟨rfl, l, o, rfl, a1, a3, a4, fun hc => by lia⟩
      · rw [if_neg hg]
        refine wpS_bind (wpS_bey hk h0 (by lia) ?_)
        cases e : Bey left (K arr (base + (hint - o))) y with
        | true => exact wpS_pure ⟨rfl, l, o, rfl, a1, a3, a4, fun _ => e⟩
        | false => exact wpS_pure ⟨rfl, o, _, rfl, by lia, by lia, by lia, e⟩
    · rintro c st' ⟨rfl, l, o, rfl, a1, a2, a3, a4⟩
      exact ⟨rfl, l, o, rfl, a1, a3, a4, fun hc => by lia⟩
    · rintro c st' ⟨rfl, l, o, rfl, a1, a3, a4, a5⟩
      dsimp only
      refine hjp _ _ _ _ _ (by lia) (by lia) (fun i hi => up (show i ≤ hint - o by lia) (by lia) (a5 (by lia))) fun i hi hin => dn (show hint - l ≤ i by lia) hin a4

end
abbrev keyI (p : Keyed) : Int := numOf p.1
theorem K_get {xs : Array Keyed} {i : Nat} (hi : i < xs.size) : K xs i = keyI xs[i] := by unfold K; rw [getElem?_pos xs i hi]
theorem Srt.at {xs : Array Keyed} (h : Srt keyI xs.toList) {i j : Nat} (hij : i ≤ j) (hj : j < xs.size) : K xs i ≤ K xs j := by
  rcases Nat.lt_or_eq_of_le hij with hlt | rfl
  · rw [K_get (by lia), K_get hj]
    have := List.pairwise_iff_getElem.mp h i j (by simpa using (by lia : i < xs.size)) (by simpa using hj) hlt
    simpa using this
  · exact Int.le_refl _
theorem drop_at {xs : Array Keyed} {i : Nat} (hi : i < xs.size) : xs.toList.drop i = xs[i] :: xs.toList.drop (i + 1) := by
  rw [List.drop_eq_getElem_cons (by simpa using hi)]; simp
theorem take_at {xs : Array Keyed} {i : Nat} (hi : i < xs.size) : xs.toList.take (i + 1) = xs.toList.take i ++ [xs[i]] := by
  rw [List.take_succ_eq_append_getElem (by simpa using hi)]; simp
theorem drop_all {xs : Array Keyed} {i : Nat} (hi : i = xs.size) : xs.toList.drop i = [] := List.drop_eq_nil_of_le (by simp; lia)
/-- all that is left lies above the first that is left -/
theorem Srt.below {l : List Keyed} {p : Keyed} {r : List Keyed} (h : Srt keyI l) (e : l = p :: r) {T : List Keyed} (hT : ∀ q ∈ T, keyI q ≤ keyI p) : Low keyI T l := by
  subst e
  intro q hq x hx
  rcases List.mem_cons.mp hx with rfl | hx
  · exact hT q hq
  · exact Int.le_trans (hT q hq) ((List.pairwise_cons.mp h).1 x hx)
theorem Srt.above {l : List Keyed} {p : Keyed} {r : List Keyed} (h : Srt keyI l) (e : l = r ++ [p]) {T : List Keyed} (hT : ∀ q ∈ T, keyI p ≤ keyI q) : Low keyI l T := by
  subst e
  intro x hx q hq
  rcases List.mem_append.mp hx with hx | hx
  · exact Int.le_trans (h.split.2.2 x hx p (List.mem_singleton.mpr rfl)) (hT q hq)
  · rw [List.mem_singleton.mp hx]; exact hT q hq
theorem mem_seg {xs : Array Keyed} {i k : Nat} {q : Keyed} (h : q ∈ (xs.toList.drop i).take k) : ∃ j, j < k ∧ i + j < xs.size ∧ keyI q = K xs (i + j) := by
  obtain ⟨j, hj, rfl⟩ := List.mem_iff_getElem.mp h
  simp at hj
  exact ⟨j, by lia, by lia, by rw [K_get (by lia)]; simp⟩

structure Same (st st' : SortSt) : Prop where
  kind : kindOf st' = kindOf st
  arr : arrOf st' = arrOf st
  pend : pendingOf st' = pendingOf st
  failed : failedOf st' = failedOf st
theorem Same.refl (st : SortSt) : Same st st := ⟨rfl, rfl, rfl, rfl⟩
theorem Same.trans {a b c : SortSt} (h : Same a b) (k : Same b c) : Same a c := ⟨k.kind.trans h.kind, k.arr.trans h.arr, k.pend.trans h.pend, k.failed.trans h.failed⟩
def setMG' : Nat → StateT SortSt Sem Unit := sortPriv% PySem.Builtin.setMinGallop

section
variable {a b : Array Keyed}
def ML (a b out : Array Keyed) (ia ib : Nat) : Prop := MI keyI a.toList b.toList out.toList (a.toList.drop ia) (b.toList.drop ib)
def MRes (a b r : Array Keyed) : Prop := r.toList.Perm (a.toList ++ b.toList) ∧ Srt keyI r.toList
theorem ML.seg {xs : Array Keyed} {i k : Nat} : xs.toList.drop i = (xs.toList.drop i).take k ++ xs.toList.drop (i + k) := by
  rw [← List.drop_drop, List.take_append_drop]
theorem ML.takeA {out : Array Keyed} {ia ib k : Nat} (h : ML a b out ia ib) (hb : ib < b.size) (c : ∀ j, j < k → ia + j < a.size → K a (ia + j) ≤ K b ib) : ML a b (out ++ a.extract ia (ia + k)) (ia + k) ib := by
  unfold ML at h ⊢
  rw [@ML.seg a ia k] at h
  have := h.takeU (h.sv.below (drop_at hb) fun q hq => by
    obtain ⟨j, j1, j2, e⟩ := mem_seg hq
    rw [e, ← K_get hb]; exact c j j1 j2)
  rw [show (out ++ a.extract ia (ia + k)).toList = out.toList ++ (a.toList.drop ia).take k by simp [List.extract_eq_take_drop]]
  exact this
theorem ML.takeB {out : Array Keyed} {ia ib k : Nat} (h : ML a b out ia ib) (ha : ia < a.size) (c : ∀ j, j < k → ib + j < b.size → K b (ib + j) ≤ K a ia) : ML a b (out ++ b.extract ib (ib + k)) ia (ib + k) := by
  unfold ML at h ⊢
  rw [@ML.seg b ib k] at h
  have := h.takeV (h.su.below (drop_at ha) fun q hq => by
    obtain ⟨j, j1, j2, e⟩ := mem_seg hq
    rw [e, ← K_get ha]; exact c j j1 j2)
  rw [show (out ++ b.extract ib (ib + k)).toList = out.toList ++ (b.toList.drop ib).take k by simp [List.extract_eq_take_drop]]
  exact this
theorem push_ext {out xs : Array Keyed} {i : Nat} {p : Keyed} (e : xs[i]? = some p) : out.push p = out ++ xs.extract i (i + 1) := by
  obtain ⟨hi, rfl⟩ := Array.getElem?_eq_some_iff.mp e
  apply Array.toList_inj.mp
  simp [List.extract_eq_take_drop]
  rw [List.drop_eq_getElem_cons (by simpa using hi)]; simp
theorem ext_all (xs : Array Keyed) (i : Nat) : (xs.extract i).toList = xs.toList.drop i := by
  simp only [Array.toList_extract, List.extract_eq_take_drop]
  exact List.take_of_length_le (by simp)
theorem ML.done {out : Array Keyed} {ia ib : Nat} (h : ML a b out ia ib) (e : ib = b.size) : MRes a b (out ++ a.extract ia ++ b.extract ib) := by
  unfold ML at h
  rw [drop_all e] at h
  have := h.endU
  unfold MRes
  rw [show (out ++ a.extract ia ++ b.extract ib).toList = out.toList ++ a.toList.drop ia by rw [Array.toList_append, Array.toList_append, ext_all, ext_all, drop_all e]; simp]
  exact this
theorem ML.done' {out : Array Keyed} {ia ib : Nat} (h : ML a b out ia ib) (e : ia = a.size) : MRes a b (out ++ a.extract ia ++ b.extract ib) := by
  unfold ML at h
  rw [drop_all e] at h
  have := h.endV
  unfold MRes
  rw [show (out ++ a.extract ia ++ b.extract ib).toList = out.toList ++ b.toList.drop ib by rw [Array.toList_append, Array.toList_append, ext_all, ext_all, drop_all e]; simp]
  exact this
theorem ML.last {out : Array Keyed} {ia ib : Nat} (h : ML a b out ia ib) (hba : ∀ q ∈ b.toList, keyI q ≤ K a (a.size - 1)) (e : ia + 1 = a.size) : MRes a b (out ++ b.extract ib ++ a.extract ia) := by
  unfold ML at h
  have := h.endVU (h.su.below (drop_at (by lia)) fun q hq => by
    have := hba q (List.mem_of_mem_drop hq)
    rw [show a.size - 1 = ia by lia, K_get (by lia)] at this; exact this)
  unfold MRes
  rw [show (out ++ b.extract ib ++ a.extract ia).toList = out.toList ++ b.toList.drop ib ++ a.toList.drop ia by rw [Array.toList_append, Array.toList_append, ext_all, ext_all]]
  exact this
theorem Bey.le {x y : Int} (h : Bey false x y = true) : x ≤ y := by unfold Bey at h; simp at h; exact h
theorem Bey.lt {x y : Int} (h : Bey true x y = true) : x < y := by unfold Bey at h; simpa using h
theorem Bey.nle {x y : Int} (h : Bey false x y = false) : y < x := by unfold Bey at h; simp at h; exact h
theorem Bey.nlt {x y : Int} (h : Bey true x y = false) : y ≤ x := by unfold Bey at h; simpa using h
end

section
variable {prog : Program} {w : World} {A : Around} {E : Value → Shared → Prop} {s : Shared} {st : SortSt} {a b : Array Keyed}
theorem wpS_post {α : Type} {m : StateT SortSt Sem α} {Q : α → SortSt → Prop} (H : (α → SortSt → Prop) → Prop) (hq : H Q) (h : ∀ P, H P → wpS (model prog w) A E s m P st) : wpS (model prog w) A E s m Q st := h Q hq
theorem wpS_setMG {g : Nat} {Q : Unit → SortSt → Prop} (h : ∀ st', Same st st' → Q () st') : wpS (model prog w) A E s (setMG' g) Q st := by
  refine wpS_from ?_
  wp_delta
  wp_delta
  refine wpS_to ?_
  exact wpS_modify (h _ ⟨rfl, rfl, rfl, rfl⟩)
theorem wpS_rule {r : String} {Q : Unit → SortSt → Prop} (h : Q () st) : wpS (model prog w) A E s (liftM (rule r) : StateT SortSt Sem Unit) Q st := wpS_lift (wpAny_rule ⟨rfl, h⟩)

structure Going (a b : Array Keyed) (N : Nat) (out : Array Keyed) (ia ib : Nat) : Prop where
  ml : ML a b out ia ib
  ha : ia + 1 < a.size
  hb : ib < b.size
  hn : N ≤ ia + ib
theorem wpS_elemI {xs : Array Keyed} {i : Nat} {Q : Keyed → SortSt → Prop} (h0 : IntKeys xs) (hi : i < xs.size) (h : ∀ t q, xs[i]? = some (.int (K xs i) t, q) → Q (.int (K xs i) t, q) st) : wpS (model prog w) A E s (elem' xs i) Q st := by
  obtain ⟨t, q, e⟩ := intAt h0 hi
  exact wpS_elem e (h t q e)
/-- the ends of a merge's loops: handed back, or going on -/
inductive MQ {β : Type} (st : SortSt) (a b : Array Keyed) (P : β → Prop) : Option (Array Keyed) × β → SortSt → Prop
  | res {r c st'} : Same st st' → MRes a b r → MQ st a b P (some r, c) st'
  | go {c st'} : Same st st' → P c → MQ st a b P (none, c) st'
inductive MG {β : Type} (st : SortSt) (P : β → Prop) : Option (Array Keyed) × β → SortSt → Prop
  | go {c st'} : Same st st' → P c → MG st P (none, c) st'
inductive P4 (a b : Array Keyed) (N : Nat) : Array Keyed × Nat × Nat × Nat → Prop
  | mk {out ia ib mg} : Going a b N out ia ib → P4 a b N (out, ia, ib, mg)
inductive P5 (a b : Array Keyed) (N : Nat) : Array Keyed × Nat × Nat × Nat × Nat → Prop
  | mk {out ia ib ac bc} : Going a b N out ia ib → P5 a b N (out, ia, ib, ac, bc)
inductive P6 (a b : Array Keyed) (N : Nat) : Array Keyed × Nat × Nat × Nat × Nat × Nat → Prop
  | mk {out ia ib mg ac bc} : Going a b N out ia ib → P6 a b N (out, ia, ib, mg, ac, bc)
theorem one_of {j : Nat} (h : j < 1) : j = 0 := Nat.lt_one_iff.mp h
theorem Going.stepB {a b out : Array Keyed} {N ia ib : Nat} {p : Keyed} (G : Going a b N out ia ib) (e : b[ib]? = some p) (h : K b ib ≤ K a ia) : ML a b (out.push p) ia (ib + 1) := by
  rw [push_ext e]
  exact G.ml.takeB (k := 1) (Nat.lt_of_succ_lt G.ha) fun j hj _ => by rw [one_of hj]; exact h
theorem Going.stepA {a b out : Array Keyed} {N ia ib : Nat} {p : Keyed} (G : Going a b N out ia ib) (e : a[ia]? = some p) (h : K a ia ≤ K b ib) : ML a b (out.push p) (ia + 1) ib := by
  rw [push_ext e]
  exact G.ml.takeA (k := 1) G.hb fun j hj _ => by rw [one_of hj]; exact h
theorem eqb {x y : Nat} (h : x = y) : (x == y) = true := by rw [h]; exact beq_self_eq_true y
theorem wpS_ite {α : Type} {c : Prop} [Decidable c] {m n : StateT SortSt Sem α} {Q : α → SortSt → Prop} (h1 : c → wpS (model prog w) A E s m Q st) (h2 : ¬ c → wpS (model prog w) A E s n Q st) : wpS (model prog w) A E s (if c then m else n) Q st := by
  by_cases h : c
  · rw [if_pos h]; exact h1 h
  · rw [if_neg h]; exact h2 h
theorem wpS_ieq {α : Type} {x y : Nat} {m n : StateT SortSt Sem α} {Q : α → SortSt → Prop} (h1 : x = y → wpS (model prog w) A E s m Q st) (h2 : x ≠ y → wpS (model prog w) A E s n Q st) : wpS (model prog w) A E s (if (x == y) = true then m else n) Q st :=
  wpS_ite (fun h => h1 (beq_iff_eq.mp h)) fun h => h2 fun q => h (eqb q)
theorem wpS_idec {α : Type} {c : Prop} [Decidable c] {m n : StateT SortSt Sem α} {Q : α → SortSt → Prop} (h1 : c → wpS (model prog w) A E s m Q st) (h2 : ¬ c → wpS (model prog w) A E s n Q st) : wpS (model prog w) A E s (if decide c = true then m else n) Q st :=
  wpS_ite (fun h => h1 (of_decide_eq_true h)) fun h => h2 fun q => h (decide_eq_true q)
theorem wpS_mergeLo {Q : Array Keyed → SortSt → Prop} (hk : kindOf st = oneType') (ia0 : IntKeys a) (ib0 : IntKeys b) (sa : Srt keyI a.toList) (sb : Srt keyI b.toList) (ha : 0 < a.size) (hb : 0 < b.size)
    (h00 : K b 0 ≤ K a 0) (hba : ∀ q ∈ b.toList, keyI q ≤ K a (a.size - 1)) (h : ∀ r st', Same st st' → MRes a b r → Q r st') : wpS (model prog w) A E s (mergeLo' a b) Q st := by
  have start : ∀ p, b[0]? = some p → ML a b #[p] 0 1 := fun p e => by
    have m0 : ML a b #[] 0 0 := ⟨List.Perm.refl _, List.Pairwise.nil, sa, sb, Low.nil', Low.nil'⟩
    have := m0.takeB (k := 1) ha fun j hj _ => by rw [one_of hj]; exact h00
    rw [← push_ext e] at this
    exact this
  refine wpS_from ?_
  wp_delta
  wp_delta
  refine wpS_to ?_
  refine wpS_bind (wpS_rule ?_)
  refine wpS_bind (wpS_elemI ib0 hb fun t0 q0 e0 => ?_)
  replace start := start _ e0
  refine wpS_ieq (fun c1 => wpS_pure (h _ _ (.refl _) (start.done c1))) fun c1 => ?_
  refine wpS_ieq (fun c2 => wpS_pure (h _ _ (.refl _) (start.last hba c2))) fun c2 => ?_
  refine wpS_bind (wpS_get ?_)
  refine wpS_bind (wpS_mono (wpS_forRange (I := fun x => MG st (P4 a b (x + 1))) (Q := MQ st a b fun _ => False) ?_ ?_ (.go (.refl _) (.mk ⟨start, by lia, by lia, by lia⟩))) ?_)
  rotate_left
  · rintro _ _ ⟨_, ⟨G⟩⟩
    have := G.ha
    have := G.hb
    have := G.hn
    lia
  · rintro _ _ (⟨S, R⟩ | ⟨_, F⟩)
    · exact wpS_pure (h _ _ S R)
    · exact F.elim
  clear start e0 c1 c2
  rintro x _ st1 _ hx ⟨S, ⟨G⟩⟩
  rename_i out ia ib mg
  refine wpS_bind (wpS_mono (wpS_forRange (I := fun y => MG st (P5 a b (x + 1 + y))) (Q := MQ st a b (P5 a b (x + 2))) ?_ ?_ (.go S (.mk G))) ?_)
  rotate_left
  · rintro _ _ ⟨S, ⟨G⟩⟩
    exact .go S (.mk ⟨G.ml, G.ha, G.hb, by have := G.hn; lia⟩)
  rotate_left
  · clear G S
    rintro y _ st2 _ hy ⟨S, ⟨G⟩⟩
    refine wpS_bind (wpS_elemI ib0 G.hb fun t1 q1 e1 => ?_)
    refine wpS_bind (wpS_elemI ia0 (Nat.lt_of_succ_lt G.ha) fun t2 q2 e2 => ?_)
    refine wpS_bind (wpS_ltI (S.kind.trans hk) ?_)
    have hn := G.hn
    have ha := G.ha
    have hb := G.hb
    refine wpS_idec (fun hw => wpS_bind (wpS_elem e1 ?_)) fun hw => wpS_bind (wpS_elem e2 ?_)
    · have L := G.stepB e1 (Int.le_of_lt hw)
      refine wpS_ieq (fun c1 => wpS_pure (.res S (L.done c1))) fun c1 => ?_
      exact wpS_ite (fun _ => wpS_pure (.go S (.mk ⟨L, ha, by lia, by lia⟩))) fun _ => wpS_pure (.go S (.mk ⟨L, ha, by lia, by lia⟩))
    · have L := G.stepA e2 (Int.not_lt.mp hw)
      refine wpS_ieq (fun c1 => wpS_pure (.res S (L.last hba c1))) fun c1 => ?_
      exact wpS_ite (fun _ => wpS_pure (.go S (.mk ⟨L, by lia, hb, by lia⟩))) fun _ => wpS_pure (.go S (.mk ⟨L, by lia, hb, by lia⟩))
  clear G S
  rintro _ st2 (⟨S, R⟩ | ⟨S, ⟨G⟩⟩)
  · exact wpS_pure (.res S R)
  refine wpS_bind (wpS_rule ?_)
  refine wpS_bind (wpS_mono (wpS_forRange (I := fun _ => MG st (P6 a b (x + 2))) (Q := MQ st a b (P6 a b (x + 2))) ?_ ?_ (.go S (.mk G))) ?_)
  rotate_left
  · rintro _ _ ⟨S, G⟩
    exact .go S G
  · rintro _ st3 (⟨S, R⟩ | ⟨S, ⟨G⟩⟩)
    · exact wpS_pure (.res S R)
    · exact wpS_bind (wpS_setMG fun st4 S4 => wpS_pure (.go (S.trans S4) (.mk G)))
  clear G S
  rintro y _ st3 _ hy ⟨S, ⟨G⟩⟩
  rename_i out ia ib mg ac bc
  refine wpS_post (fun P => (∀ r c st', Same st st' → MRes a b r → P (.done (some r, c)) st') ∧ ∀ c st', Same st st' → P6 a b (x + 2) c → P (.done (none, c)) st' ∧ P (.yield (none, c)) st')
    ⟨fun r c st' S R => .res S R, fun c st' S G => ⟨.go S G, .go S G⟩⟩ fun P hP => ?_
  have pr := hP.1
  have pg := hP.2
  clear hP
  have ha := G.ha
  have hb := G.hb
  have hn := G.hn
  extract_lets -merge t1 outv t2 iav t3 ibv t4 mgv t5 acv bcv ib1 jp mg1
  have hjp : ∀ r mg, wpS (model prog w) A E s (jp r mg) P st3 := by
    intro r mg'
    refine wpS_bind (wpS_setMG fun st4 S4 => ?_)
    replace S := S.trans S4; clear S4
    refine wpS_bind (wpS_elemI ib0 hb fun t1 q1 e1 => ?_)
    refine wpS_bind (wpS_gallop (S.kind.trans hk) ia0 (base := ia) (n := a.size - ia) (by lia) (by lia) (fun i j hij hj => sa.at (Nat.add_le_add_left hij _) (by lia)) fun k k1 k2 k3 => ?_)
    replace k3 : ∀ i, k ≤ i → i < a.size - ia → K b ib ≤ K a (ia + i) := fun i hi hj => Int.le_of_lt (Bey.nle (k3 i hi hj))
    dsimp -zeta only
    extract_lets -merge ac2 jp2 out1 ia1
    have L1 := G.ml.takeA (k := k) hb fun j hj _ => Bey.le (k2 j hj)
    have hjp2 : ∀ r out ia', ML a b out ia' ib → ia ≤ ia' → ia' + 1 < a.size → K b ib ≤ K a ia' → wpS (model prog w) A E s (jp2 r out ia') P st4 := by
      clear L1
      intro r out ia' L l1 l2 hle
      refine wpS_bind (wpS_elem e1 ?_)
      have L2 := Going.stepB (N := 0) ⟨L, l2, hb, Nat.zero_le _⟩ e1 hle
      refine wpS_ieq (fun c1 => wpS_pure (pr _ _ _ S (L2.done c1))) fun c1 => ?_
      refine wpS_bind (wpS_elemI ia0 (Nat.lt_of_succ_lt l2) fun t2 q2 e2 => ?_)
      refine wpS_bind (wpS_gallop (S.kind.trans hk) ib0 (base := ib + 1) (n := b.size - (ib + 1)) (by lia) (by lia) (fun i j hij hj => sb.at (Nat.add_le_add_left hij _) (by lia)) fun m m1 m2 m3 => ?_)
      replace m3 : ∀ i, m ≤ i → i < b.size - (ib + 1) → K a ia' ≤ K b (ib + 1 + i) := fun i hi hj => Bey.nlt (m3 i hi hj)
      dsimp -zeta only
      extract_lets -merge bc2 ia2 jp3 out2 ib2
      have L3 := L2.takeB (k := m) (Nat.lt_of_succ_lt l2) fun j hj _ => Int.le_of_lt (Bey.lt (m2 j hj))
      have hjp3 : ∀ r out ib', ML a b out ia' ib' → ib < ib' → ib' < b.size → (K a ia' ≤ K b ib') → wpS (model prog w) A E s (jp3 r out ib') P st4 := by
        clear L3 L2 L
        intro r out ib' L l3 l4 l5
        refine wpS_bind (wpS_elem e2 ?_)
        have L4 := Going.stepA (N := 0) ⟨L, l2, l4, Nat.zero_le _⟩ e2 l5
        refine wpS_ieq (fun c2 => wpS_pure (pr _ _ _ S (L4.last hba c2))) fun c2 => ?_
        have G' := pg _ st4 S (.mk (mg := mg') (ac := ac2) (bc := bc2) ⟨L4, by lia, l4, by lia⟩)
        exact wpS_ite (fun _ => wpS_pure G'.1) fun _ => wpS_pure G'.2
      clear_value jp3
      refine wpS_ite (fun c3 => ?_) fun c3 => hjp3 _ _ (ib + 1) L2 (Nat.lt_succ_self _) (by lia) (m3 0 (by lia) (by lia))
      exact wpS_ieq (fun c4 => wpS_pure (pr _ _ _ S (L3.done c4))) fun c4 => hjp3 _ _ (ib + 1 + m) L3 (by lia) (by lia) (m3 m (Nat.le_refl _) (by lia))
    clear_value jp2
    refine wpS_ite (fun c3 => ?_) fun c3 => hjp2 _ _ ia G.ml (Nat.le_refl _) ha (k3 0 (by lia) (by lia))
    refine wpS_ieq (fun c4 => wpS_pure (pr _ _ _ S (L1.last hba c4))) fun c4 => ?_
    exact wpS_ieq (fun c5 => wpS_pure (pr _ _ _ S (L1.done' c5))) fun c5 => hjp2 _ _ (ia + k) L1 (Nat.le_add_right _ _) (by lia) (k3 k (Nat.le_refl _) (by lia))
  clear_value jp
  exact wpS_ite (fun _ => hjp _ _) fun _ => hjp _ _
end

section
variable {a b : Array Keyed}
def MR (a b out : Array Keyed) (na nb : Nat) : Prop := MH keyI a.toList b.toList (a.toList.take na) (b.toList.take nb) out.toList.reverse
theorem ext_seg (xs : Array Keyed) (i j : Nat) : (xs.extract i j).toList = (xs.toList.drop i).take (j - i) := by simp [List.extract_eq_take_drop]
theorem MR.seg {xs : Array Keyed} {i j : Nat} (h : i ≤ j) : xs.toList.take j = xs.toList.take i ++ (xs.extract i j).toList := by
  rw [ext_seg, ← List.drop_take]
  have := List.take_append_drop i (xs.toList.take j)
  rw [List.take_take, Nat.min_eq_left h] at this
  exact this.symm
theorem MR.mem {xs : Array Keyed} {i j : Nat} {q : Keyed} (h : q ∈ (xs.extract i j).toList) : ∃ k, i ≤ k ∧ k < j ∧ keyI q = K xs k := by
  rw [ext_seg] at h
  obtain ⟨k, k1, _, e⟩ := mem_seg h
  exact ⟨i + k, by lia, by lia, e⟩
theorem take_last {xs : Array Keyed} {n : Nat} (h0 : 0 < n) (h : n ≤ xs.size) : xs.toList.take n = xs.toList.take (n - 1) ++ [xs[n - 1]'(by lia)] := by
  have := take_at (xs := xs) (i := n - 1) (by lia)
  rwa [show n - 1 + 1 = n by lia] at this
theorem MR.takeA {out : Array Keyed} {na nb i : Nat} (h : MR a b out na nb) (hi : i ≤ na) (b0 : 0 < nb) (hb : nb ≤ b.size) (c : ∀ j, i ≤ j → j < na → K b (nb - 1) ≤ K a j) : MR a b (out ++ (a.extract i na).reverse) i nb := by
  unfold MR at h ⊢
  rw [MR.seg hi] at h
  have := h.takeU (h.sv.above (take_last b0 hb) fun q hq => by
    obtain ⟨k, k1, k2, e⟩ := MR.mem hq
    rw [e, ← K_get (by lia)]; exact c k k1 k2)
  rw [show (out ++ (a.extract i na).reverse).toList.reverse = (a.extract i na).toList ++ out.toList.reverse by simp]
  exact this
theorem MR.takeB {out : Array Keyed} {na nb i : Nat} (h : MR a b out na nb) (hi : i ≤ nb) (a0 : 0 < na) (ha : na ≤ a.size) (c : ∀ j, i ≤ j → j < nb → K a (na - 1) ≤ K b j) : MR a b (out ++ (b.extract i nb).reverse) na i := by
  unfold MR at h ⊢
  rw [@MR.seg b i nb hi] at h
  have := h.takeV (h.su.above (take_last a0 ha) fun q hq => by
    obtain ⟨k, k1, k2, e⟩ := MR.mem hq
    rw [e, ← K_get (by lia)]; exact c k k1 k2)
  rw [show (out ++ (b.extract i nb).reverse).toList.reverse = (b.extract i nb).toList ++ out.toList.reverse by simp]
  exact this
theorem push_rev {out xs : Array Keyed} {i n : Nat} {p : Keyed} (e : xs[i]? = some p) (hn : n = i + 1) : out.push p = out ++ (xs.extract i n).reverse := by
  subst hn
  obtain ⟨hi, rfl⟩ := Array.getElem?_eq_some_iff.mp e
  apply Array.toList_inj.mp
  rw [Array.toList_append, Array.toList_reverse, ext_seg]
  rw [List.drop_eq_getElem_cons (by simpa using hi)]; simp
theorem MR.done {out : Array Keyed} {na nb : Nat} (h : MR a b out na nb) (e : na = 0) : MRes a b (a.extract 0 na ++ b.extract 0 nb ++ out.reverse) := by
  unfold MR at h
  subst e
  have := h.endV
  unfold MRes
  rw [show (a.extract 0 0 ++ b.extract 0 nb ++ out.reverse).toList = b.toList.take nb ++ out.toList.reverse by rw [Array.toList_append, Array.toList_append, ext_seg, ext_seg, Array.toList_reverse]; simp]
  exact this
theorem MR.done' {out : Array Keyed} {na nb : Nat} (h : MR a b out na nb) (e : nb = 0) : MRes a b (a.extract 0 na ++ b.extract 0 nb ++ out.reverse) := by
  unfold MR at h
  subst e
  have := h.endU
  unfold MRes
  rw [show (a.extract 0 na ++ b.extract 0 0 ++ out.reverse).toList = a.toList.take na ++ out.toList.reverse by rw [Array.toList_append, Array.toList_append, ext_seg, ext_seg, Array.toList_reverse]; simp]
  exact this
theorem MR.first {out : Array Keyed} {na nb : Nat} (h : MR a b out na nb) (hb : 0 < b.size) (hba : ∀ q ∈ a.toList, K b 0 ≤ keyI q) (e : nb = 1) : MRes a b (b.extract 0 nb ++ a.extract 0 na ++ out.reverse) := by
  unfold MR at h
  subst e
  have := h.endVU (h.sv.above (take_last (by lia) (by lia)) fun q hq => by
    have := hba q (List.mem_of_mem_take hq)
    rwa [K_get hb] at this)
  unfold MRes
  rw [show (b.extract 0 1 ++ a.extract 0 na ++ out.reverse).toList = b.toList.take 1 ++ a.toList.take na ++ out.toList.reverse by rw [Array.toList_append, Array.toList_append, ext_seg, ext_seg, Array.toList_reverse]; simp]
  exact this
structure GoingH (a b : Array Keyed) (N : Nat) (out : Array Keyed) (na nb : Nat) : Prop where
  ml : MR a b out na nb
  a0 : 0 < na
  ha : na ≤ a.size
  b0 : 1 < nb
  hb : nb ≤ b.size
  hn : N + na + nb ≤ a.size + b.size
end
section
variable {prog : Program} {w : World} {A : Around} {E : Value → Shared → Prop} {s : Shared} {st : SortSt} {a b : Array Keyed}
inductive H4 (a b : Array Keyed) (N : Nat) : Nat × Nat × Array Keyed × Nat → Prop
  | mk {na nb out mg} : GoingH a b N out na nb → H4 a b N (na, nb, out, mg)
inductive H5 (a b : Array Keyed) (N : Nat) : Nat × Nat × Array Keyed × Nat × Nat → Prop
  | mk {na nb out ac bc} : GoingH a b N out na nb → H5 a b N (na, nb, out, ac, bc)
inductive H6 (a b : Array Keyed) (N : Nat) : Nat × Nat × Array Keyed × Nat × Nat × Nat → Prop
  | mk {na nb out mg ac bc} : GoingH a b N out na nb → H6 a b N (na, nb, out, mg, ac, bc)
theorem last_of {j n : Nat} (h1 : n - 1 ≤ j) (h2 : j < n) : j = n - 1 := Nat.le_antisymm (Nat.le_sub_one_of_lt h2) h1
theorem back_of {n : Nat} (h : 0 < n) : n = n - 1 + 1 := (Nat.sub_add_cancel h).symm
theorem lt_back {n m : Nat} (h : 0 < n) (h' : n ≤ m) : n - 1 < m := Nat.lt_of_lt_of_le (Nat.sub_lt h Nat.one_pos) h'
theorem MR.stepA {a b out : Array Keyed} {na nb : Nat} {p : Keyed} (L : MR a b out na nb) (a0 : 0 < na) (b0 : 0 < nb) (hb : nb ≤ b.size) (e : a[na - 1]? = some p) (h : K b (nb - 1) ≤ K a (na - 1)) : MR a b (out.push p) (na - 1) nb := by
  rw [push_rev e (back_of a0)]
  exact L.takeA (i := na - 1) (Nat.sub_le _ _) b0 hb fun j h1 h2 => by rw [last_of h1 h2]; exact h
theorem MR.stepB {a b out : Array Keyed} {na nb : Nat} {p : Keyed} (L : MR a b out na nb) (b0 : 0 < nb) (a0 : 0 < na) (ha : na ≤ a.size) (e : b[nb - 1]? = some p) (h : K a (na - 1) ≤ K b (nb - 1)) : MR a b (out.push p) na (nb - 1) := by
  rw [push_rev e (back_of b0)]
  exact L.takeB (i := nb - 1) (Nat.sub_le _ _) a0 ha fun j h1 h2 => by rw [last_of h1 h2]; exact h
theorem wpS_mergeHi {Q : Array Keyed → SortSt → Prop} (hk : kindOf st = oneType') (ia0 : IntKeys a) (ib0 : IntKeys b) (sa : Srt keyI a.toList) (sb : Srt keyI b.toList) (ha : 0 < a.size) (hb : 0 < b.size)
    (h00 : K b (b.size - 1) ≤ K a (a.size - 1)) (hba : ∀ q ∈ a.toList, K b 0 ≤ keyI q) (h : ∀ r st', Same st st' → MRes a b r → Q r st') : wpS (model prog w) A E s (mergeHi' a b) Q st := by
  have start : ∀ p, a[a.size - 1]? = some p → MR a b #[p] (a.size - 1) b.size := fun p e => by
    have m0 : MR a b #[] a.size b.size := by
      unfold MR
      rw [List.take_of_length_le (by simp), List.take_of_length_le (by simp)]
      exact ⟨by simp, List.Pairwise.nil, sa, sb, Low.nil, Low.nil⟩
    exact m0.stepA ha hb (Nat.le_refl _) e h00
  refine wpS_from ?_
  wp_delta
  wp_delta
  refine wpS_to ?_
  refine wpS_bind (wpS_rule ?_)
  refine wpS_bind (wpS_elemI ia0 (lt_back ha (Nat.le_refl _)) fun t0 q0 e0 => ?_)
  replace start := start _ e0
  refine wpS_ieq (fun c1 => wpS_pure (h _ _ (.refl _) (start.done c1))) fun c1 => ?_
  refine wpS_ieq (fun c2 => wpS_pure (h _ _ (.refl _) (start.first hb hba c2))) fun c2 => ?_
  refine wpS_bind (wpS_get ?_)
  refine wpS_bind (wpS_mono (wpS_forRange (I := fun x => MG st (H4 a b (x + 1))) (Q := MQ st a b fun _ => False) ?_ ?_ (.go (.refl _) (.mk ⟨start, by lia, by lia, by lia, by lia, by lia⟩))) ?_)
  rotate_left
  · rintro _ _ ⟨_, ⟨G⟩⟩
    have := G.hn
    have := G.a0
    lia
  · rintro _ _ (⟨S, R⟩ | ⟨_, F⟩)
    · exact wpS_pure (h _ _ S R)
    · exact F.elim
  clear start e0 c1 c2
  rintro x _ st1 _ hx ⟨S, ⟨G⟩⟩
  refine wpS_bind (wpS_mono (wpS_forRange (I := fun y => MG st (H5 a b (x + 1 + y))) (Q := MQ st a b (H5 a b (x + 2))) ?_ ?_ (.go S (.mk G))) ?_)
  rotate_left
  · rintro _ _ ⟨S, ⟨G⟩⟩
    exact .go S (.mk ⟨G.ml, G.a0, G.ha, G.b0, G.hb, by have := G.hn; lia⟩)
  rotate_left
  · clear G S
    rintro y _ st2 _ hy ⟨S, ⟨G⟩⟩
    have g1 := G.a0
    have g2 := G.ha
    have g3 := G.b0
    have g4 := G.hb
    have hn := G.hn
    refine wpS_bind (wpS_elemI ib0 (lt_back (Nat.lt_of_succ_lt g3) g4) fun t1 q1 e1 => ?_)
    refine wpS_bind (wpS_elemI ia0 (lt_back g1 g2) fun t2 q2 e2 => ?_)
    refine wpS_bind (wpS_ltI (S.kind.trans hk) ?_)
    refine wpS_idec (fun hw => wpS_bind (wpS_elem e2 ?_)) fun hw => wpS_bind (wpS_elem e1 ?_)
    · have L := G.ml.stepA g1 (Nat.lt_of_succ_lt g3) g4 e2 (Int.le_of_lt hw)
      refine wpS_ieq (fun c1 => wpS_pure (.res S (L.done c1))) fun c1 => ?_
      have a0' := Nat.pos_of_ne_zero c1
      exact wpS_ite (fun _ => wpS_pure (.go S (.mk ⟨L, a0', Nat.le_trans (Nat.sub_le _ _) g2, g3, g4, by lia⟩))) fun _ => wpS_pure (.go S (.mk ⟨L, a0', Nat.le_trans (Nat.sub_le _ _) g2, g3, g4, by lia⟩))
    · have L := G.ml.stepB (Nat.lt_of_succ_lt g3) g1 g2 e1 (Int.not_lt.mp hw)
      refine wpS_ieq (fun c1 => wpS_pure (.res S (L.first hb hba c1))) fun c1 => ?_
      exact wpS_ite (fun _ => wpS_pure (.go S (.mk ⟨L, g1, g2, by lia, Nat.le_trans (Nat.sub_le _ _) g4, by lia⟩))) fun _ => wpS_pure (.go S (.mk ⟨L, g1, g2, by lia, Nat.le_trans (Nat.sub_le _ _) g4, by lia⟩))
  clear G S
  rintro _ st2 (⟨S, R⟩ | ⟨S, ⟨G⟩⟩)
  · exact wpS_pure (.res S R)
  refine wpS_bind (wpS_rule ?_)
  refine wpS_bind (wpS_mono (wpS_forRange (I := fun _ => MG st (H6 a b (x + 2))) (Q := MQ st a b (H6 a b (x + 2))) ?_ ?_ (.go S (.mk G))) ?_)
  rotate_left
  · rintro _ _ ⟨S, G⟩
    exact .go S G
  · rintro _ st3 (⟨S, R⟩ | ⟨S, ⟨G⟩⟩)
    · exact wpS_pure (.res S R)
    · exact wpS_bind (wpS_setMG fun st4 S4 => wpS_pure (.go (S.trans S4) (.mk G)))
  clear G S
  rintro y _ st3 _ hy ⟨S, ⟨G⟩⟩
  rename_i na nb out mg ac bc
  refine wpS_post (fun P => (∀ r c st', Same st st' → MRes a b r → P (.done (some r, c)) st') ∧ ∀ c st', Same st st' → H6 a b (x + 2) c → P (.done (none, c)) st' ∧ P (.yield (none, c)) st')
    ⟨fun r c st' S R => .res S R, fun c st' S G => ⟨.go S G, .go S G⟩⟩ fun P hP => ?_
  have pr := hP.1
  have pg := hP.2
  clear hP
  have g1 := G.a0
  have g2 := G.ha
  have g3 := G.b0
  have g4 := G.hb
  have hn := G.hn
  have g5 := Nat.lt_of_succ_lt g3
  extract_lets -merge t1 nav t2 nbv t3 outv t4 mgv t5 acv bcv nb1 jp mg1
  have hjp : ∀ r mg, wpS (model prog w) A E s (jp r mg) P st3 := by
    intro r mg'
    refine wpS_bind (wpS_setMG fun st4 S4 => ?_)
    replace S := S.trans S4; clear S4
    refine wpS_bind (wpS_elemI ib0 (lt_back g5 g4) fun t1 q1 e1 => ?_)
    refine wpS_bind (wpS_gallop (S.kind.trans hk) ia0 (base := 0) (n := na) (by rw [Nat.zero_add]; exact g2) (lt_back g1 (Nat.le_refl _)) (fun i j hij hj => sa.at (Nat.add_le_add_left hij _) (by rw [Nat.zero_add]; exact Nat.lt_of_lt_of_le hj g2)) fun k k1 k2 k3 => ?_)
    replace k3 : ∀ i, k ≤ i → i < na → K b (nb - 1) ≤ K a i := fun i hi hj => by have := Int.le_of_lt (Bey.nle (k3 i hi hj)); rwa [Nat.zero_add] at this
    replace k2 : ∀ i, i < k → K a i ≤ K b (nb - 1) := fun i hi => by have := Bey.le (k2 i hi); rwa [Nat.zero_add] at this
    dsimp -zeta only
    extract_lets -merge kk ac2 jp2 out1 na1
    have L1 := G.ml.takeA (i := k) k1 g5 g4 fun j h1 h2 => k3 j h1 h2
    have hjp2 : ∀ r na' out, MR a b out na' nb → 0 < na' → na' ≤ na → K a (na' - 1) ≤ K b (nb - 1) → wpS (model prog w) A E s (jp2 r na' out) P st4 := by
      clear L1
      intro r na' out L l1 l2 hle
      have l2' := Nat.le_trans l2 g2
      refine wpS_bind (wpS_elem e1 ?_)
      have L2 := L.stepB g5 l1 l2' e1 hle
      refine wpS_ieq (fun c1 => wpS_pure (pr _ _ _ S (L2.first hb hba c1))) fun c1 => ?_
      refine wpS_bind (wpS_elemI ia0 (lt_back l1 l2') fun t2 q2 e2 => ?_)
      refine wpS_bind (wpS_gallop (S.kind.trans hk) ib0 (base := 0) (n := nb - 1) (by lia) (by lia) (fun i j hij hj => sb.at (Nat.add_le_add_left hij _) (by lia)) fun m m1 m2 m3 => ?_)
      replace m3 : ∀ i, m ≤ i → i < nb - 1 → K a (na' - 1) ≤ K b i := fun i hi hj => by have := Bey.nlt (m3 i hi hj); rwa [Nat.zero_add] at this
      replace m2 : ∀ i, i < m → K b i ≤ K a (na' - 1) := fun i hi => by have := Int.le_of_lt (Bey.lt (m2 i hi)); rwa [Nat.zero_add] at this
      dsimp -zeta only
      extract_lets -merge kk2 bc2 na2 jp3 out2 nb2
      have L3 := L2.takeB (i := m) m1 l1 l2' fun j h1 h2 => m3 j h1 h2
      have hjp3 : ∀ r nb' out, MR a b out na' nb' → 1 < nb' → nb' ≤ nb - 1 → (K b (nb' - 1) ≤ K a (na' - 1)) → wpS (model prog w) A E s (jp3 r nb' out) P st4 := by
        clear L3 L2 L
        intro r nb' out L l3 l4 l5
        have l4' : nb' ≤ b.size := Nat.le_trans l4 (Nat.le_trans (Nat.sub_le _ _) g4)
        refine wpS_bind (wpS_elem e2 ?_)
        have L4 := L.stepA l1 (Nat.lt_of_succ_lt l3) l4' e2 l5
        refine wpS_ieq (fun c2 => wpS_pure (pr _ _ _ S (L4.done c2))) fun c2 => ?_
        have G' := pg _ st4 S (.mk (mg := mg') (ac := ac2) (bc := bc2) ⟨L4, Nat.pos_of_ne_zero c2, Nat.le_trans (Nat.sub_le _ _) l2', l3, l4', by lia⟩)
        exact wpS_ite (fun _ => wpS_pure G'.1) fun _ => wpS_pure G'.2
      clear_value jp3
      refine wpS_ite (fun c3 => ?_) fun c3 => hjp3 _ (nb - 1) _ L2 (by lia) (Nat.le_refl _) (m2 (nb - 1 - 1) (by lia))
      refine wpS_ieq (fun c4 => wpS_pure (pr _ _ _ S (L3.first hb hba c4))) fun c4 => ?_
      exact wpS_ieq (fun c5 => wpS_pure (pr _ _ _ S (L3.done' c5))) fun c5 => hjp3 _ m _ L3 (by lia) m1 (m2 (m - 1) (lt_back (Nat.pos_of_ne_zero c5) (Nat.le_refl _)))
    clear_value jp2
    refine wpS_ite (fun c3 => ?_) fun c3 => hjp2 _ na _ G.ml g1 (Nat.le_refl _) (k2 (na - 1) (by lia))
    exact wpS_ieq (fun c4 => wpS_pure (pr _ _ _ S (L1.done c4))) fun c4 => hjp2 _ k _ L1 (Nat.pos_of_ne_zero c4) k1 (k2 (k - 1) (lt_back (Nat.pos_of_ne_zero c4) (Nat.le_refl _)))
  clear_value jp
  exact wpS_ite (fun _ => hjp _ _) fun _ => hjp _ _
end
end Fl

namespace Fl
open PySem PyProof.Rows
/-- ordered between two places -/
def Seg (xs : Array Keyed) (lo hi : Nat) : Prop := ∀ i j, lo ≤ i → i ≤ j → j < hi → K xs i ≤ K xs j
def putAt (xs : Array Keyed) (i : Nat) (l : List Keyed) : Array Keyed := l.zipIdx.foldl (fun a x => match x with | (p, j) => a.setIfInBounds (i + j) p) xs
theorem put_aux (i : Nat) : ∀ (l : List Keyed) (n : Nat) (xs : Array Keyed) (k : Nat), i + n + l.length ≤ xs.size →
    ((l.zipIdx n).foldl (fun a x => match x with | (p, j) => a.setIfInBounds (i + j) p) xs)[k]? = if i + n ≤ k ∧ k < i + n + l.length then l[k - (i + n)]? else xs[k]?
  | [], n, xs, k, _ => by rw [if_neg (by simp only [List.length_nil]; lia)]; rfl
  | p :: l, n, xs, k, h => by
    rw [List.zipIdx_cons, List.foldl_cons]
    have := put_aux i l (n + 1) (xs.setIfInBounds (i + n) p) k (by simp only [List.length_cons] at h; rw [Array.size_setIfInBounds]; lia)
    refine this.trans ?_
    simp only [List.length_cons] at h ⊢
    by_cases c : i + n = k
    · subst c
      rw [if_neg (by lia), if_pos (by lia), Array.getElem?_setIfInBounds_self_of_lt (by lia), Nat.sub_self]; rfl
    · rw [Array.getElem?_setIfInBounds_ne c]
      by_cases c2 : i + (n + 1) ≤ k ∧ k < i + (n + 1) + l.length
      · rw [if_pos c2, if_pos (by lia), show k - (i + n) = (k - (i + (n + 1))) + 1 by lia]; rfl
      · rw [if_neg c2, if_neg (by lia)]
theorem put_get {xs : Array Keyed} {i : Nat} {l : List Keyed} (h : i + l.length ≤ xs.size) (k : Nat) : (putAt xs i l)[k]? = if i ≤ k ∧ k < i + l.length then l[k - i]? else xs[k]? := put_aux i l 0 xs k h
theorem put_toList {xs : Array Keyed} {i : Nat} {l : List Keyed} (h : i + l.length ≤ xs.size) : (putAt xs i l).toList = xs.toList.take i ++ l ++ xs.toList.drop (i + l.length) := by
  apply List.ext_getElem?
  intro k
  rw [Array.getElem?_toList, put_get h, List.append_assoc, List.getElem?_append, List.getElem?_append]
  simp only [List.length_take, Array.length_toList]
  by_cases c : i ≤ k ∧ k < i + l.length
  · rw [if_pos c, if_neg (by lia), if_pos (by lia), Nat.min_eq_left (by lia)]
  · rw [if_neg c]
    by_cases c2 : k < i
    · rw [if_pos (by lia), List.getElem?_take_of_lt c2, Array.getElem?_toList]
    · rw [if_neg (by lia), if_neg (by lia), List.getElem?_drop, Nat.min_eq_left (by lia), show i + l.length + (k - i - l.length) = k by lia, Array.getElem?_toList]
theorem put_perm {xs : Array Keyed} {i : Nat} {l : List Keyed} (h : i + l.length ≤ xs.size) (p : l.Perm (xs.extract i (i + l.length)).toList) : (putAt xs i l).Perm xs := by
  apply Array.perm_iff_toList_perm.mpr
  rw [put_toList h]
  have e : xs.toList = xs.toList.take i ++ (xs.extract i (i + l.length)).toList ++ xs.toList.drop (i + l.length) := by
    rw [ext_seg, List.append_assoc, Nat.add_sub_cancel_left, ← List.drop_drop, List.take_append_drop, List.take_append_drop]
  conv => rhs; rw [e]
  exact List.Perm.append_right _ (List.Perm.append_left _ p)
theorem K_ext {xs : Array Keyed} {i j k : Nat} (h : i + k < j) : K (xs.extract i j) k = K xs (i + k) := by
  apply K_congr
  rw [Array.getElem?_extract]
  split
  · rfl
  · rename_i c
    rw [eq_comm, Array.getElem?_eq_none_iff]; lia
theorem intExt {xs : Array Keyed} (h : IntKeys xs) (i j : Nat) : IntKeys (xs.extract i j) := fun p hp => h p (by
  rw [ext_seg] at hp; exact List.mem_of_mem_drop (List.mem_of_mem_take hp))
theorem Seg.srt {xs : Array Keyed} {i j : Nat} (h : Seg xs i j) : Srt keyI (xs.extract i j).toList := by
  unfold Srt
  rw [List.pairwise_iff_getElem]
  intro p q hp hq hpq
  have hq' : q < (xs.extract i j).size := by simpa [Nat.sub_min_sub_right] using hq
  have hp' : p < (xs.extract i j).size := by lia
  have a1 := K_get hp'
  have a2 := K_get hq'
  have hs : (xs.extract i j).size = min j xs.size - i := Array.size_extract
  rw [K_ext (by lia)] at a1 a2
  have := h (i + p) (i + q) (by lia) (by lia) (by lia)
  rw [a1, a2] at this
  simpa using this
/-- a part of an array is laid anew -/
structure Anew (lo hi : Nat) (xs ys : Array Keyed) : Prop where
  perm : ys.Perm xs
  out : ∀ k, k < lo ∨ hi ≤ k → ys[k]? = xs[k]?
theorem Anew.refl (lo hi : Nat) (xs : Array Keyed) : Anew lo hi xs xs := ⟨Array.Perm.refl _, fun _ _ => rfl⟩
theorem Seg.join {xs : Array Keyed} {lo mi hi : Nat} (a : Seg xs lo mi) (b : Seg xs mi hi) (c : ∀ i j, lo ≤ i → i < mi → mi ≤ j → j < hi → K xs i ≤ K xs j) : Seg xs lo hi := by
  intro i j h1 h2 h3
  by_cases c1 : j < mi
  · exact a i j h1 h2 c1
  · by_cases c2 : mi ≤ i
    · exact b i j c2 h2 h3
    · exact c i j h1 (by lia) (by lia) h3
theorem merged_ok {xs r : Array Keyed} {lo l1 mi h1 hi : Nat} (e1 : lo ≤ l1) (e2 : l1 ≤ mi) (e3 : mi ≤ h1) (e4 : h1 ≤ hi) (e5 : hi ≤ xs.size) (sa : Seg xs lo mi) (sb : Seg xs mi hi)
    (cl : ∀ i, lo ≤ i → i < l1 → K xs i ≤ K xs mi) (cr : ∀ j, h1 ≤ j → j < hi → K xs (mi - 1) ≤ K xs j) (hm : mi < h1) (hl : l1 < mi) (R : MRes (xs.extract l1 mi) (xs.extract mi h1) r) :
    Anew lo hi xs (putAt xs l1 r.toList) ∧ Seg (putAt xs l1 r.toList) lo hi := by
  have hx : (xs.extract l1 mi).toList ++ (xs.extract mi h1).toList = (xs.extract l1 h1).toList := by
    have q := @MR.seg xs l1 mi e2
    have q2 := @MR.seg xs mi h1 e3
    have q3 := @MR.seg xs l1 h1 (by lia)
    rw [q2, q, List.append_assoc] at q3
    exact List.append_cancel_left q3
  have P : r.toList.Perm (xs.extract l1 h1).toList := by rw [← hx]; exact R.1
  have hlen : r.toList.length = h1 - l1 := by rw [P.length_eq]; simp; lia
  have hb : l1 + r.toList.length ≤ xs.size := by lia
  have mid : ∀ i, l1 ≤ i → i < h1 → ∃ j, l1 ≤ j ∧ j < h1 ∧ K (putAt xs l1 r.toList) i = K xs j := by
    intro i i1 i2
    have hr : i - l1 < r.toList.length := by lia
    obtain ⟨j, j1, j2, e⟩ := MR.mem (P.mem_iff.mp (List.getElem_mem hr))
    refine ⟨j, j1, j2, ?_⟩
    rw [← e]
    unfold K
    rw [put_get hb, if_pos (by lia), List.getElem?_eq_getElem hr]
  have off : ∀ i, i < l1 ∨ h1 ≤ i → K (putAt xs l1 r.toList) i = K xs i := fun i hi => K_congr (by rw [put_get hb, if_neg (by lia)])
  refine ⟨⟨put_perm hb (by rw [show l1 + r.toList.length = h1 by lia]; exact P), fun k hk => by rw [put_get hb, if_neg (by lia)]⟩, ?_⟩
  have below : ∀ i j, lo ≤ i → i < l1 → l1 ≤ j → j < hi → K xs i ≤ K xs j := by
    intro i j i1 i2 j1 j2
    by_cases c : j < mi
    · exact sa i j i1 (by lia) c
    · exact Int.le_trans (cl i i1 i2) (sb mi j (Nat.le_refl _) (by lia) j2)
  have above : ∀ i j, lo ≤ i → i < h1 → h1 ≤ j → j < hi → K xs i ≤ K xs j := by
    intro i j i1 i2 j1 j2
    by_cases c : i < mi
    · exact Int.le_trans (sa i (mi - 1) i1 (by lia) (by lia)) (cr j j1 j2)
    · exact sb i j (by lia) (by lia) j2
  refine Seg.join (mi := l1) (fun i j i1 i2 i3 => by rw [off i (by lia), off j (by lia)]; exact sa i j i1 i2 (by lia)) (Seg.join (mi := h1) ?_ (fun i j i1 i2 i3 => by rw [off i (by lia), off j (by lia)]; exact sb i j (by lia) i2 i3) ?_) ?_
  · intro i j i1 i2 i3
    rcases Nat.lt_or_eq_of_le i2 with lt | rfl
    · have hj : j - l1 < r.toList.length := by lia
      have := List.pairwise_iff_getElem.mp R.2 (i - l1) (j - l1) (by lia) hj (by lia)
      unfold K
      rw [put_get hb, put_get hb, if_pos (by lia), if_pos (by lia), List.getElem?_eq_getElem hj, List.getElem?_eq_getElem (by lia)]
      exact this
    · exact Int.le_refl _
  · intro i j i1 i2 j1 j2
    obtain ⟨i', a1, a2, e⟩ := mid i i1 i2
    rw [e, off j (by lia)]; exact above i' j (by lia) a2 j1 j2
  · intro i j i1 i2 j1 j2
    rw [off i (by lia)]
    by_cases c : j < h1
    · obtain ⟨j', a1, a2, e⟩ := mid j j1 c
      rw [e]; exact below i j' i1 i2 a1 (by lia)
    · rw [off j (by lia)]; exact below i j i1 i2 j1 j2

section
variable {prog : Program} {w : World} {A : Around} {E : Value → Shared → Prop} {s : Shared} {st : SortSt} {a₀ : Array Keyed}
theorem wpS_set {x : SortSt} {Q : PUnit → SortSt → Prop} (h : Q ⟨⟩ x) : wpS (model prog w) A E s (set x : StateT SortSt Sem PUnit) Q st := by
  unfold wpS; rw [StateT.run_set]; exact wpAny_pure ⟨rfl, h⟩
theorem wpS_mergeAt {i sa na p nb p' : Nat} {Q : Bool → SortSt → Prop} (hk : kindOf st = oneType') (hf : failedOf st = none) (h0 : IntKeys (arrOf st)) (e1 : (pendingOf st)[i]? = some (sa, na, p)) (e2 : (pendingOf st)[i + 1]? = some (sa + na, nb, p'))
    (a0 : 0 < na) (b0 : 0 < nb) (hs : sa + na + nb ≤ (arrOf st).size) (ga : Seg (arrOf st) sa (sa + na)) (gb : Seg (arrOf st) (sa + na) (sa + na + nb))
    (h : ∀ st', kindOf st' = oneType' → failedOf st' = none → pendingOf st' = ((pendingOf st).setIfInBounds i (sa, na + nb, p)).eraseIdxIfInBounds (i + 1) → Anew sa (sa + na + nb) (arrOf st) (arrOf st') → Seg (arrOf st') sa (sa + na + nb) → Q true st') : wpS (model prog w) A E s (mergeAt' i) Q st := by
  refine wpS_from ?_
  wp_delta
  wp_delta
  refine wpS_to ?_
  refine wpS_bind (wpS_get ?_)
  rw [e1, e2]
  dsimp -zeta only
  refine wpS_bind (wpS_set ?_)
  obtain ⟨t1, q1, f1⟩ := intAt h0 (show sa + na < (arrOf st).size by lia)
  refine wpS_bind (wpS_elem f1 ?_)
  refine wpS_bind (wpS_gallop (by exact hk) h0 (show sa + na ≤ (arrOf st).size by lia) a0 (fun x y hxy hy => ga _ _ (by lia) (by lia) (by lia)) fun k k1 k2 k3 => ?_)
  dsimp -zeta only
  replace k2 : ∀ j, sa ≤ j → j < sa + k → K (arrOf st) j ≤ K (arrOf st) (sa + na) := fun j j1 j2 => by
    have := Bey.le (k2 (j - sa) (by lia)); rwa [show sa + (j - sa) = j by lia] at this
  by_cases c1 : na - k = 0
  · rw [if_pos (by simpa using c1)]
    refine wpS_pure (h _ hk hf rfl (.refl _ _ _) (ga.join gb fun x y x1 x2 y1 y2 => ?_))
    exact Int.le_trans (k2 x x1 (by lia)) (gb _ _ (Nat.le_refl _) y1 y2)
  rw [if_neg (by simpa using c1)]
  have k4 : K (arrOf st) (sa + na) ≤ K (arrOf st) (sa + k) := Int.le_of_lt (Bey.nle (k3 k (Nat.le_refl _) (by lia)))
  clear k3
  have e3 : sa + k + (na - k) - 1 = sa + na - 1 := by lia
  obtain ⟨t2, q2, f2⟩ := intAt h0 (show sa + na - 1 < (arrOf st).size by lia)
  rw [e3]
  refine wpS_bind (wpS_elem f2 ?_)
  refine wpS_bind (wpS_gallop (by exact hk) h0 hs (show nb - 1 < nb by lia) (fun x y hxy hy => gb _ _ (by lia) (by lia) (by lia)) fun m m1 m2 m3 => ?_)
  replace m2 : ∀ j, sa + na ≤ j → j < sa + na + m → K (arrOf st) j ≤ K (arrOf st) (sa + na - 1) := fun j j1 j2 => by
    have := Int.le_of_lt (Bey.lt (m2 (j - (sa + na)) (by lia))); rwa [show sa + na + (j - (sa + na)) = j by lia] at this
  replace m3 : ∀ j, sa + na + m ≤ j → j < sa + na + nb → K (arrOf st) (sa + na - 1) ≤ K (arrOf st) j := fun j j1 j2 => by
    have := Bey.nlt (m3 (j - (sa + na)) (by lia) (by lia)); rwa [show sa + na + (j - (sa + na)) = j by lia] at this
  dsimp -zeta only
  by_cases c2 : m = 0
  · rw [if_pos (by simpa using c2)]
    refine wpS_pure (h _ hk hf rfl (.refl _ _ _) (ga.join gb fun x y x1 x2 y1 y2 => ?_))
    exact Int.le_trans (ga _ _ x1 (by lia) (by lia)) (m3 y (by lia) y2)
  rw [if_neg (by simpa using c2)]
  extract_lets -merge x y jp
  have hjp : ∀ r st', Same st st' ∨ pendingOf st' = ((pendingOf st).setIfInBounds i (sa, na + nb, p)).eraseIdxIfInBounds (i + 1) → kindOf st' = oneType' → failedOf st' = none → arrOf st' = arrOf st → pendingOf st' = ((pendingOf st).setIfInBounds i (sa, na + nb, p)).eraseIdxIfInBounds (i + 1) → MRes x y r → wpS (model prog w) A E s (jp r) Q st' := by
    intro r st' _ g1 g2 g3 g4 R
    refine wpS_bind (wpS_modify ?_)
    refine wpS_bind (wpS_get (wpS_pure ?_))
    have M := merged_ok (lo := sa) (l1 := sa + k) (mi := sa + na) (h1 := sa + na + m) (hi := sa + na + nb) (by lia) (by lia) (by lia) (by lia) hs ga gb k2 m3 (by lia) (by lia) R
    have e : (failedOf st').isNone = true := by rw [g2]; rfl
    refine Eq.mp (congrArg (fun b => Q b _) e.symm) (h _ g1 g2 g4 ?_ ?_)
    · show Anew _ _ _ (putAt (arrOf st') (sa + k) r.toList)
      rw [g3]; exact M.1
    · show Seg (putAt (arrOf st') (sa + k) r.toList) _ _
      rw [g3]; exact M.2
  clear_value jp
  have hxs : x.size = na - k := by show ((arrOf st).extract _ _).size = _; rw [Array.size_extract]; lia
  have hys : y.size = m := by show ((arrOf st).extract _ _).size = _; rw [Array.size_extract]; lia
  have kx : ∀ j, j < na - k → K x j = K (arrOf st) (sa + k + j) := fun j hj => K_ext (by lia)
  have ky : ∀ j, j < m → K y j = K (arrOf st) (sa + na + j) := fun j hj => K_ext (by lia)
  have sx : Srt keyI x.toList := Seg.srt fun i j i1 i2 i3 => ga i j (by lia) i2 i3
  have sy : Srt keyI y.toList := Seg.srt fun i j i1 i2 i3 => gb i j i1 i2 (by lia)
  have hyx : ∀ q ∈ y.toList, keyI q ≤ K x (x.size - 1) := fun q hq => by
    obtain ⟨j, j1, j2, e⟩ := MR.mem hq
    rw [e, hxs, kx _ (by lia), show sa + k + (na - k - 1) = sa + na - 1 by lia]; exact m2 j j1 j2
  have hxy : ∀ q ∈ x.toList, K y 0 ≤ keyI q := fun q hq => by
    obtain ⟨j, j1, j2, e⟩ := MR.mem hq
    rw [e, ky 0 (by lia)]; exact Int.le_trans k4 (ga _ _ (by lia) j1 (by lia))
  by_cases c3 : na - k ≤ m
  · rw [if_pos c3]
    refine wpS_bind (wpS_mergeLo hk (intExt h0 _ _) (intExt h0 _ _) sx sy (by lia) (by lia) (by rw [kx 0 (by lia), ky 0 (by lia)]; exact k4) hyx fun r st' S R => ?_)
    exact hjp r st' (.inr S.pend) (S.kind.trans hk) (S.failed.trans hf) S.arr S.pend R
  · rw [if_neg c3]
    refine wpS_bind (wpS_mergeHi hk (intExt h0 _ _) (intExt h0 _ _) sx sy (by lia) (by lia) (by rw [hys, ky _ (by lia), hxs, kx _ (by lia), show sa + k + (na - k - 1) = sa + na - 1 by lia]; exact m2 _ (by lia) (by lia)) hxy fun r st' S R => ?_)
    exact hjp r st' (.inr S.pend) (S.kind.trans hk) (S.failed.trans hf) S.arr S.pend R
end
end Fl

namespace Fl
open PySem PyProof.Rows
theorem Anew.trans {lo hi : Nat} {xs ys zs : Array Keyed} (a : Anew lo hi xs ys) (b : Anew lo hi ys zs) : Anew lo hi xs zs := ⟨b.perm.trans a.perm, fun k hk => (b.out k hk).trans (a.out k hk)⟩
/-- a state of the sort, seen from an elder one: the same but for a part of the array -/
structure SB (lo hi : Nat) (st₀ st : SortSt) : Prop where
  kind : kindOf st = oneType'
  failed : failedOf st = none
  pend : pendingOf st = pendingOf st₀
  anew : Anew lo hi (arrOf st₀) (arrOf st)
theorem intPerm {xs ys : Array Keyed} (h : IntKeys xs) (p : ys.Perm xs) : IntKeys ys := fun q hq => h q ((Array.perm_iff_toList_perm.mp p).mem_iff.mp hq)
theorem SB.size {lo hi : Nat} {st₀ st : SortSt} (B : SB lo hi st₀ st) : (arrOf st).size = (arrOf st₀).size := B.anew.perm.size_eq
/-- falling from a place on -/
def Fall (xs : Array Keyed) (lo n : Nat) : Prop := ∀ i j, i ≤ j → j < n → K xs (lo + j) ≤ K xs (lo + i)
def Rise (xs : Array Keyed) (lo n : Nat) : Prop := ∀ i j, i ≤ j → j < n → K xs (lo + i) ≤ K xs (lo + j)
theorem Rise.more {xs : Array Keyed} {lo n : Nat} (h : Rise xs lo n) (h1 : 1 ≤ n) (c : K xs (lo + n - 1) ≤ K xs (lo + n)) : Rise xs lo (n + 1) := by
  intro i j hij hj
  by_cases hn : j < n
  · exact h i j hij hn
  · obtain rfl : j = n := by lia
    by_cases hi : i = j
    · subst hi; exact Int.le_refl _
    · have := h i (j - 1) (by lia) (by lia)
      rw [show lo + (j - 1) = lo + j - 1 by lia] at this
      exact Int.le_trans this c
theorem Fall.more {xs : Array Keyed} {lo n : Nat} (h : Fall xs lo n) (h1 : 1 ≤ n) (c : K xs (lo + n) ≤ K xs (lo + n - 1)) : Fall xs lo (n + 1) := by
  intro i j hij hj
  by_cases hn : j < n
  · exact h i j hij hn
  · obtain rfl : j = n := by lia
    by_cases hi : i = j
    · subst hi; exact Int.le_refl _
    · have := h i (j - 1) (by lia) (by lia)
      rw [show lo + (j - 1) = lo + j - 1 by lia] at this
      exact Int.le_trans c this
theorem SB.mirror {lo hi i j : Nat} {st₀ st : SortSt} (B : SB lo hi st₀ st) (h1 : lo ≤ i) (h2 : j ≤ hi) (hj : j ≤ (arrOf st).size) : SB lo hi st₀ (setArr st (mirror (arrOf st) i j ((j - i) / 2))) :=
  ⟨B.kind, B.failed, B.pend, B.anew.trans ⟨mirror_perm _ _ _ _, fun k hk => by
    show (PyProof.Rows.mirror (arrOf st) i j ((j - i) / 2))[k]? = _
    rw [getElem?_mirror_all hj, if_neg (by lia)]⟩⟩
section
variable {prog : Program} {w : World} {A : Around} {E : Value → Shared → Prop} {s : Shared} {st st₀ : SortSt} {lo hi : Nat}
theorem wpS_ltS {i j : Nat} {Q : Option Bool → SortSt → Prop} (B : SB lo hi st₀ st) (h0 : IntKeys (arrOf st₀)) (hi : i < (arrOf st₀).size) (hj : j < (arrOf st₀).size)
    (h : Q (some (decide (K (arrOf st) i < K (arrOf st) j))) st) : wpS (model prog w) A E s (ltAt' i j) Q st := by
  obtain ⟨t, p, e1⟩ := intAt (intPerm h0 B.anew.perm) (show i < (arrOf st).size by rw [B.size]; exact hi)
  obtain ⟨u, q, e2⟩ := intAt (intPerm h0 B.anew.perm) (show j < (arrOf st).size by rw [B.size]; exact hj)
  exact wpS_ltAt B.kind e1 e2 h
theorem wpS_ascAt {a nrem : Nat} {Q : Option (Option Nat) × Nat → SortSt → Prop} (B : SB lo hi st₀ st) (h0 : IntKeys (arrOf st₀)) (hn : lo + nrem ≤ (arrOf st₀).size) (ha : 1 ≤ a) (han : a ≤ nrem) (hs : Rise (arrOf st) lo a)
    (h : ∀ n, a ≤ n → n ≤ nrem → Rise (arrOf st) lo n → (n = nrem ∨ K (arrOf st) (lo + n) < K (arrOf st) (lo + n - 1)) → Q (none, n) st) :
    wpS (model prog w) A E s (forIn [a:nrem] ((none, a) : Option (Option Nat) × Nat) fun _ c => do
      let x ← ltAt' (lo + c.2) (lo + c.2 - 1)
      match x with
      | some smaller => if smaller = true then pure (ForInStep.done (none, c.2)) else pure (ForInStep.yield (none, c.2 + 1))
      | _ => pure (ForInStep.done (some none, c.2))) Q st := by
  refine wpS_forRange (I := fun x c st' => st' = st ∧ c = (none, x) ∧ Rise (arrOf st) lo x) ?_ ?_ ⟨rfl, rfl, hs⟩
  · rintro x c st' hax hxn ⟨rfl, rfl, hs'⟩
    dsimp only
    refine wpS_bind (wpS_ltS B h0 (by lia) (by lia) ?_)
    by_cases c : K (arrOf st') (lo + x) < K (arrOf st') (lo + x - 1)
    · simp only [c, decide_true, if_true]
      exact wpS_pure (h x hax (by lia) hs' (.inr c))
    · simp only [c, decide_false, Bool.false_eq_true, if_false]
      exact wpS_pure ⟨rfl, rfl, hs'.more (by lia) (Int.not_lt.mp c)⟩
  · rintro c st' ⟨rfl, rfl, hs'⟩
    rw [show max a nrem = nrem by lia] at hs' ⊢
    exact h nrem han (Nat.le_refl _) hs' (.inl rfl)
theorem wpS_countAt {nrem : Nat} {Q : Option Nat → SortSt → Prop} (B : SB lo (lo + nrem) st₀ st) (h0 : IntKeys (arrOf st₀)) (hn : lo + nrem ≤ (arrOf st₀).size) (h1 : 1 ≤ nrem)
    (h : ∀ m st', SB lo (lo + nrem) st₀ st' → 1 ≤ m → m ≤ nrem → Rise (arrOf st') lo m → Q (some m) st') : wpS (model prog w) A E s (countRun' lo nrem) Q st := by
  rw [countRun'_eq]
  have r1 : Rise (arrOf st) lo 1 := by
    intro i j _ _
    obtain rfl : i = j := by lia
    exact Int.le_refl _
  refine wpS_bind (wpS_ascAt B h0 hn (Nat.le_refl _) h1 r1 fun n hn1 hn2 hsn hor => ?_)
  refine wpS_from ?_; wp_delta; refine wpS_to ?_
  by_cases hnn : n = nrem
  · rw [if_pos (by simpa using hnn)]
    exact wpS_pure (h n st B hn1 hn2 hsn)
  rw [if_neg (by simpa using hnn)]
  have hlt : K (arrOf st) (lo + n) < K (arrOf st) (lo + n - 1) := hor.resolve_left hnn
  extract_lets -merge n1 neq1 neq2 jp
  have hjp : ∀ r st, SB lo (lo + nrem) st₀ st → Fall (arrOf st) lo (n + 1) → wpS (model prog w) A E s (jp r) Q st := by
    clear B hsn hlt hor
    intro r st B F
    refine wpS_bind (wpS_rule ?_)
    refine wpS_bind (wpS_mono (wpS_forRange
      (I := fun x c st' => ∃ neq, c = (none, x, neq) ∧ SB lo (lo + nrem) st₀ st' ∧ Fall (arrOf st') lo x ∧ neq + 1 ≤ x ∧ (∀ i, lo + x - (neq + 1) ≤ i → i < lo + x → K (arrOf st') i = K (arrOf st') (lo + x - 1)))
      (Q := fun c st' => ∃ m neq, c = (none, m, neq) ∧ n + 1 ≤ m ∧ m ≤ nrem ∧ SB lo (lo + nrem) st₀ st' ∧ Fall (arrOf st') lo m ∧ neq + 1 ≤ m ∧ (∀ i, lo + m - (neq + 1) ≤ i → i < lo + m → K (arrOf st') i = K (arrOf st') (lo + m - 1))) ?_ ?_
      ⟨0, rfl, B, F, Nat.succ_le_succ (Nat.zero_le _), fun i h1 h2 => by congr 1; change lo + (n + 1) - (0 + 1) ≤ i at h1; change i < lo + (n + 1) at h2; show i = lo + (n + 1) - 1; lia⟩) ?_)
    · clear B F
      rintro x c st hax hxn ⟨neq, rfl, B, F, hq, he⟩
      replace hax : n + 1 ≤ x := hax
      refine wpS_bind (wpS_ltS B h0 (by show lo + x < _; lia) (by show lo + x - 1 < _; lia) ?_)
      have hsz : lo + x ≤ (arrOf st).size := by rw [B.size]; lia
      dsimp only
      by_cases c : K (arrOf st) (lo + x) < K (arrOf st) (lo + x - 1)
      · simp only [c, decide_true, if_true]
        split
        · refine wpS_bind (wpS_reverse (wpS_pure ⟨0, rfl, B.mirror (by lia) (by lia) hsz, ?_, by lia, fun i h1 h2 => by congr 1; lia⟩))
          intro i j hij hj
          show K (mirror (arrOf st) _ _ _) _ ≤ K (mirror (arrOf st) _ _ _) _
          rw [K_mirror_equal hsz he, K_mirror_equal hsz he]
          exact F.more (by lia) (Int.le_of_lt c) i j hij hj
        · exact wpS_pure ⟨0, rfl, B, F.more (by lia) (Int.le_of_lt c), by lia, fun i h1 h2 => by congr 1; lia⟩
      · simp only [c, decide_false, Bool.false_eq_true, if_false]
        refine wpS_bind (wpS_ltS B h0 (by lia) (by lia) ?_)
        by_cases c2 : K (arrOf st) (lo + x - 1) < K (arrOf st) (lo + x)
        · simp only [c2, decide_true, if_true]
          exact wpS_pure ⟨x, neq, rfl, hax, by lia, B, F, hq, he⟩
        · simp only [c2, decide_false, Bool.false_eq_true, if_false]
          have e : K (arrOf st) (lo + x) = K (arrOf st) (lo + x - 1) := by lia
          refine wpS_pure ⟨neq + 1, rfl, B, F.more (by lia) (Int.le_of_eq e), by lia, fun i h1 h2 => ?_⟩
          rw [show lo + (x + 1) - 1 = lo + x by lia, e]
          by_cases hi : i = lo + x
          · rw [hi]; exact e
          · exact he i (by lia) (by lia)
    · rintro c st' ⟨neq, rfl, B, F, hq, he⟩
      have e : max n1 nrem = nrem := by show max (n + 1) nrem = nrem; lia
      rw [e] at F hq he ⊢
      exact ⟨nrem, neq, rfl, by lia, Nat.le_refl _, B, F, hq, he⟩
    · clear B F
      rintro c st ⟨m, neq, rfl, m1, m2, B, F, hq, he⟩
      extract_lets -merge r0 s0 m0 q0 jp2
      dsimp -zeta only [r0]
      have hsz : lo + m ≤ (arrOf st).size := by rw [B.size]; lia
      have hjp2 : ∀ r st, SB lo (lo + nrem) st₀ st → Fall (arrOf st) lo m → wpS (model prog w) A E s (jp2 r) Q st := by
        clear B F hsz he
        intro r st B F
        have hsz : lo + m ≤ (arrOf st).size := by rw [B.size]; lia
        refine wpS_bind (wpS_reverse ?_)
        have B' := B.mirror (i := lo) (j := lo + m) (Nat.le_refl _) (by lia) hsz
        refine wpS_bind (wpS_ascAt B' h0 hn (show 1 ≤ m by lia) m2 ?_ fun n a1 a2 a3 _ => wpS_pure (h n _ B' (by have : m ≤ n := a1; lia) a2 a3))
        intro i j hij hj
        replace hj : j < m := hj
        show K (mirror (arrOf st) lo (lo + m) ((lo + m - lo) / 2)) _ ≤ K (mirror (arrOf st) lo (lo + m) ((lo + m - lo) / 2)) _
        rw [K_mirror hsz, K_mirror hsz, if_pos (by lia), if_pos (by lia)]
        have := F (m - 1 - j) (m - 1 - i) (by lia) (by lia)
        rwa [show lo + (m - 1 - i) = lo + (lo + m) - 1 - (lo + i) by lia, show lo + (m - 1 - j) = lo + (lo + m) - 1 - (lo + j) by lia] at this
      clear_value jp2
      by_cases c : neq > 0
      · rw [if_pos c]
        refine wpS_bind (wpS_reverse (hjp2 _ _ (B.mirror (i := lo + m - (neq + 1)) (j := lo + m) (by lia) (by lia) hsz) ?_))
        intro i j hij hj
        show K (mirror (arrOf st) (lo + m - (neq + 1)) (lo + m) _) _ ≤ K (mirror (arrOf st) (lo + m - (neq + 1)) (lo + m) _) _
        rw [K_mirror_equal hsz he, K_mirror_equal hsz he]
        exact F i j hij hj
      · rw [if_neg c]
        exact hjp2 _ _ B F
  clear_value jp
  dsimp only
  by_cases hgt : n > 1
  · rw [if_pos hgt]
    refine wpS_bind (wpS_ltS B h0 (by lia) (by lia) ?_)
    by_cases c : K (arrOf st) lo < K (arrOf st) (lo + n - 1)
    · simp only [c, decide_true, if_true]
      exact wpS_pure (h n st B hn1 hn2 hsn)
    · simp only [c, decide_false, Bool.false_eq_true, if_false]
      have hsz : lo + n ≤ (arrOf st).size := by rw [B.size]; lia
      have hall : ∀ k, lo ≤ k → k < lo + n → K (arrOf st) k = K (arrOf st) (lo + n - 1) := by
        intro k k1 k2
        have a1 := hsn 0 (k - lo) (by lia) (by lia)
        have a2 := hsn (k - lo) (n - 1) (by lia) (by lia)
        rw [show lo + (k - lo) = k by lia] at a1 a2
        rw [show lo + (n - 1) = lo + n - 1 by lia] at a2
        rw [Nat.add_zero] at a1
        lia
      refine wpS_bind (wpS_reverse (hjp _ _ (B.mirror (Nat.le_refl _) (by lia) hsz) ?_))
      have F : Fall (arrOf st) lo n := fun i j hij hj => by rw [hall (lo + i) (by lia) (by lia), hall (lo + j) (by lia) (by lia)]; exact Int.le_refl _
      intro i j hij hj
      show K (mirror (arrOf st) lo (lo + n) _) _ ≤ K (mirror (arrOf st) lo (lo + n) _) _
      rw [K_mirror_equal hsz hall, K_mirror_equal hsz hall]
      exact F.more (by lia) (Int.le_of_lt hlt) i j hij hj
  · rw [if_neg hgt]
    obtain rfl : n = 1 := by lia
    refine hjp _ _ B (Fall.more (n := 1) (fun i j _ _ => ?_) (Nat.le_refl _) (Int.le_of_lt hlt))
    obtain rfl : i = j := by lia
    exact Int.le_refl _

theorem wpS_binAt {n ok : Nat} {Q : Bool → SortSt → Prop} (h0 : IntKeys (arrOf st₀)) (B : SB lo (lo + hi) st₀ st) (hn : lo + hi ≤ (arrOf st₀).size) (hnh : n ≤ hi) (hok : ok ≤ n) (hs : Rise (arrOf st) lo ok)
    (h : ∀ st', SB lo (lo + hi) st₀ st' → Rise (arrOf st') lo n → Q true st') : wpS (model prog w) A E s (binarySort' lo n ok) Q st := by
  rw [binarySort'_eq]
  refine wpS_bind (wpS_mono (wpS_forRange (I := fun k c st' => c = (none, ()) ∧ SB lo (lo + hi) st₀ st' ∧ Rise (arrOf st') lo (min k n))
    (Q := fun c st' => c = (none, ()) ∧ SB lo (lo + hi) st₀ st' ∧ Rise (arrOf st') lo n) ?_ ?_ ⟨rfl, B, fun i j hij hj => ?_⟩) ?_)
  · clear B hs
    rintro k c st hak hkn ⟨rfl, B, hs⟩
    rw [show min k n = k by lia] at hs
    refine wpS_bind (wpS_mono (wpS_forRange (I := fun x c st' => st' = st ∧ ∃ l r, c = (none, l, r) ∧ l ≤ r ∧ r ≤ k ∧ r - l ≤ k - x ∧
        (∀ i, i < l → K (arrOf st) (lo + i) ≤ K (arrOf st) (lo + k)) ∧ (∀ i, r ≤ i → i < k → K (arrOf st) (lo + k) < K (arrOf st) (lo + i)))
      (Q := fun c st' => st' = st ∧ ∃ l, c = (none, l, l) ∧ l ≤ k ∧
        (∀ i, i < l → K (arrOf st) (lo + i) ≤ K (arrOf st) (lo + k)) ∧ (∀ i, l ≤ i → i < k → K (arrOf st) (lo + k) < K (arrOf st) (lo + i))) ?_ ?_
        ⟨rfl, 0, k, rfl, Nat.zero_le _, Nat.le_refl _, Nat.le_refl _, fun i hi => absurd hi (Nat.not_lt_zero _), fun i h1 h2 => by lia⟩) ?_)
    · rintro x c st' _ hxk ⟨rfl, l, r, rfl, a1, a2, a3, a4, a5⟩
      dsimp only
      by_cases c1 : l ≥ r
      · rw [if_pos c1]
        obtain rfl : l = r := by lia
        exact wpS_pure ⟨rfl, l, rfl, a2, a4, a5⟩
      · rw [if_neg c1]
        refine wpS_bind (wpS_ltS B h0 (by lia) (by lia) ?_)
        by_cases c2 : K (arrOf st') (lo + k) < K (arrOf st') (lo + (l + r) / 2)
        · simp only [c2, decide_true, if_true]
          exact wpS_pure ⟨rfl, l, (l + r) / 2, rfl, by lia, by lia, by lia, a4, fun i h1 h2 => Int.lt_of_lt_of_le c2 (hs _ _ h1 h2)⟩
        · simp only [c2, decide_false, Bool.false_eq_true, if_false]
          exact wpS_pure ⟨rfl, (l + r) / 2 + 1, r, rfl, by lia, a2, by lia, fun i h1 => Int.le_trans (hs i ((l + r) / 2) (by lia) (by lia)) (Int.not_lt.mp c2), a5⟩
    · rintro c st' ⟨rfl, l, r, rfl, a1, a2, a3, a4, a5⟩
      obtain rfl : l = r := by lia
      exact ⟨rfl, l, rfl, a2, a4, a5⟩
    · rintro c st' ⟨rfl, l, rfl, a2, a4, a5⟩
      show wpS _ _ _ _ (do moveDown' (lo + k) (lo + l); pure (ForInStep.yield (none, ()))) _ _
      rw [moveDown'_eq, show lo + k - (lo + l) = k - l by lia]
      have hks : lo + k < (arrOf st').size := by rw [B.size]; lia
      refine wpS_bind (wpS_modify (wpS_pure ⟨rfl, ⟨B.kind, B.failed, B.pend, B.anew.trans ⟨bubble_perm _ _ _, fun j hj => ?_⟩⟩, ?_⟩))
      · show (bubble (arrOf st') (lo + k) (k - l))[j]? = _
        rw [getElem?_bubble hks _ (by lia), if_neg (by lia), if_neg (by lia)]
      · rw [show min (k + 1) n = k + 1 by lia]
        intro i j hij hj
        show K (bubble (arrOf st') (lo + k) (k - l)) _ ≤ K (bubble (arrOf st') (lo + k) (k - l)) _
        rw [K_bubble hks (by lia), K_bubble hks (by lia), show lo + k - (k - l) = lo + l by lia]
        have e : ∀ i, lo + l < lo + i → lo + i - 1 = lo + (i - 1) := fun i _ => by lia
        by_cases i1 : lo + i = lo + l
        · rw [if_pos i1]
          by_cases j1 : lo + j = lo + l
          · rw [if_pos j1]; exact Int.le_refl _
          · rw [if_neg j1, if_pos (by lia), e j (by lia)]; exact Int.le_of_lt (a5 _ (by lia) (by lia))
        · rw [if_neg i1]
          by_cases i2 : lo + l < lo + i ∧ lo + i ≤ lo + k
          · rw [if_pos i2, if_neg (by lia), if_pos (by lia), e i (by lia), e j (by lia)]; exact hs _ _ (by lia) (by lia)
          · rw [if_neg i2]
            by_cases j1 : lo + j = lo + l
            · rw [if_pos j1]; exact a4 _ (by lia)
            · rw [if_neg j1]
              by_cases j2 : lo + l < lo + j ∧ lo + j ≤ lo + k
              · rw [if_pos j2, e j (by lia)]; exact hs _ _ (by lia) (by lia)
              · rw [if_neg j2]; exact hs _ _ (by lia) (by lia)
  · rintro c st' ⟨rfl, B, hs⟩
    rw [show min (max (max ok 1) n) n = n by lia] at hs
    exact ⟨rfl, B, hs⟩
  · by_cases c : ok = 0
    · obtain rfl : i = j := by lia
      exact Int.le_refl _
    · exact hs i j hij (by lia)
  · rintro c st' ⟨rfl, B, hs⟩
    exact wpS_pure (h st' B hs)
end
end Fl

namespace Fl
open PySem PyProof.Rows
/-- runs one behind the other, each ordered -/
def Segs (xs : Array Keyed) : List (Nat × Nat × Nat) → Nat → Nat → Prop
  | [], a, b => a = b
  | p :: r, a, b => p.1 = a ∧ 0 < p.2.1 ∧ Seg xs a (a + p.2.1) ∧ Segs xs r (a + p.2.1) b
theorem Segs.app {xs : Array Keyed} {l r : List (Nat × Nat × Nat)} : ∀ {a b : Nat}, Segs xs (l ++ r) a b ↔ ∃ m, Segs xs l a m ∧ Segs xs r m b := by
  induction l with
  | nil => intro a b; exact ⟨fun h => ⟨a, rfl, h⟩, fun ⟨m, e, h⟩ => by cases e; exact h⟩
  | cons p l ih =>
    intro a b
    constructor
    · rintro ⟨h1, h2, h3, h4⟩
      obtain ⟨m, k1, k2⟩ := ih.mp h4
      exact ⟨m, ⟨h1, h2, h3, k1⟩, k2⟩
    · rintro ⟨m, ⟨h1, h2, h3, h4⟩, k⟩
      exact ⟨h1, h2, h3, ih.mpr ⟨m, h4, k⟩⟩
theorem Segs.le {xs : Array Keyed} {l : List (Nat × Nat × Nat)} : ∀ {a b : Nat}, Segs xs l a b → a + l.length ≤ b := by
  induction l with
  | nil => intro a b h; cases h; simp
  | cons p l ih => rintro a b ⟨_, h2, _, h4⟩; have := ih h4; simp; lia
theorem Segs.congr {xs ys : Array Keyed} {l : List (Nat × Nat × Nat)} : ∀ {a b : Nat}, Segs xs l a b → (∀ k, a ≤ k → k < b → K ys k = K xs k) → Segs ys l a b := by
  induction l with
  | nil => intro a b h _; exact h
  | cons p l ih =>
    rintro a b ⟨h1, h2, h3, h4⟩ h
    have hb := h4.le
    exact ⟨h1, h2, fun i j a1 a2 a3 => by rw [h i (by lia) (by lia), h j (by lia) (by lia)]; exact h3 i j a1 a2 a3, ih h4 fun k k1 k2 => h k (by lia) k2⟩
theorem Segs.modify {xs : Array Keyed} {f : Nat × Nat × Nat → Nat × Nat × Nat} (hf : ∀ p, (f p).1 = p.1 ∧ (f p).2.1 = p.2.1) {l : List (Nat × Nat × Nat)} : ∀ {i a b : Nat}, Segs xs l a b → Segs xs (l.modify i f) a b := by
  induction l with
  | nil => intro i a b h; rw [List.modify_nil]; exact h
  | cons p l ih =>
    rintro i a b ⟨h1, h2, h3, h4⟩
    cases i with
    | zero => rw [List.modify_zero_cons]; exact ⟨(hf p).1.trans h1, by rw [(hf p).2]; exact h2, by rw [(hf p).2]; exact h3, by rw [(hf p).2]; exact h4⟩
    | succ i => rw [List.modify_succ_cons]; exact ⟨h1, h2, h3, ih h4⟩
theorem split2 {p : Array (Nat × Nat × Nat)} {i : Nat} (h : i + 1 < p.size) : ∃ l x y r, p.toList = l ++ x :: y :: r ∧ l.length = i ∧ p[i]? = some x ∧ p[i + 1]? = some y ∧
    ∀ v, ((p.setIfInBounds i v).eraseIdxIfInBounds (i + 1)).toList = l ++ v :: r := by
  have hl : p.toList.length = p.size := Array.length_toList
  refine ⟨p.toList.take i, p[i], p[i + 1], p.toList.drop (i + 2), ?_, by rw [List.length_take]; lia, getElem?_pos p i (by lia), getElem?_pos p (i + 1) h, fun v => ?_⟩
  · have e := List.take_append_drop i p.toList
    rw [List.drop_eq_getElem_cons (by lia), List.drop_eq_getElem_cons (by lia)] at e
    simpa using e.symm
  · rw [Array.eraseIdxIfInBounds, dif_pos (by rw [Array.size_setIfInBounds]; exact h), Array.toList_eraseIdx, Array.toList_setIfInBounds]
    have e := List.take_append_drop i p.toList
    rw [List.drop_eq_getElem_cons (by lia), List.drop_eq_getElem_cons (by lia)] at e
    conv => lhs; rw [← e]
    rw [List.set_append_right _ _ (by rw [List.length_take]; lia), List.eraseIdx_append_of_length_le (by rw [List.length_take]; lia)]
    rw [List.length_take, show i - min i p.toList.length = 0 by lia, show i + 1 - min i p.toList.length = 1 by lia]
    rfl
/-- how the sort stands between two runs -/
structure RS (a₀ : Array Keyed) (lo : Nat) (st : SortSt) : Prop where
  kind : kindOf st = oneType'
  failed : failedOf st = none
  perm : (arrOf st).Perm a₀
  segs : Segs (arrOf st) (pendingOf st).toList 0 lo
section
variable {prog : Program} {w : World} {A : Around} {E : Value → Shared → Prop} {s : Shared} {st : SortSt} {a₀ : Array Keyed}
theorem wpS_mergeRS {lo i : Nat} {Q : Bool → SortSt → Prop} (h0 : IntKeys a₀) (R : RS a₀ lo st) (hlo : lo ≤ a₀.size) (hi : i + 1 < (pendingOf st).size)
    (h : ∀ st', RS a₀ lo st' → (pendingOf st').size + 1 = (pendingOf st).size → (∀ k, lo ≤ k → (arrOf st')[k]? = (arrOf st)[k]?) → Q true st') : wpS (model prog w) A E s (mergeAt' i) Q st := by
  obtain ⟨l, ⟨sa, na, p⟩, ⟨sb, nb, p'⟩, r, e, el, e1, e2, ev⟩ := split2 hi
  have S := R.segs
  rw [e] at S
  obtain ⟨m, S1, g1, g2, g3, g4, g5, g6, S2⟩ := Segs.app.mp S
  have hz : (arrOf st).size = a₀.size := R.perm.size_eq
  have hle := S2.le
  dsimp only at g1 g2 g3 g4 g5 g6 S2 hle
  subst g1
  subst g4
  refine wpS_mergeAt R.kind R.failed (intPerm h0 R.perm) e1 e2 g2 g5 (by lia) g3 g6 fun st' k1 k2 k3 k4 k5 => h st' ⟨k1, k2, k4.perm.trans R.perm, ?_⟩ ?_ fun k hk => k4.out k (by lia)
  · rw [k3, ev]
    have off : ∀ k, k < sa ∨ sa + na + nb ≤ k → K (arrOf st') k = K (arrOf st) k := fun k hk => K_congr (k4.out k hk)
    exact Segs.app.mpr ⟨sa, S1.congr fun k _ hk => off k (by lia), rfl, Nat.add_pos_left g2 _, by rw [← Nat.add_assoc]; exact k5, by rw [← Nat.add_assoc]; exact S2.congr fun k hk _ => off k (by lia)⟩
  · have q1 : (pendingOf st').toList.length = (l ++ (sa, na + nb, p) :: r).length := by rw [k3, ev]
    have q2 : (pendingOf st).toList.length = (l ++ (sa, na, p) :: (sa + na, nb, p') :: r).length := by rw [e]
    rw [Array.length_toList] at q1 q2
    rw [q1, q2]; simp; lia
theorem wpS_sortAll {Q : Unit → SortSt → Prop} (h0 : IntKeys a₀) (R : RS a₀ 0 st) (h2 : 2 ≤ a₀.size)
    (h : ∀ st', (arrOf st').Perm a₀ → failedOf st' = none → SortedTo (arrOf st') a₀.size → Q () st') : wpS (model prog w) A E s sortRuns' Q st := by
  rw [sortRuns'_eq]
  refine wpS_bind (wpS_get ?_)
  have hz : (arrOf st).size = a₀.size := R.perm.size_eq
  rw [hz]
  extract_lets -merge size minrun lo0
  refine wpS_bind (wpS_mono (wpS_forRange
    (I := fun x c st' => ∃ lo, c = (none, lo) ∧ lo ≤ a₀.size ∧ (x ≤ lo ∨ lo = a₀.size) ∧ RS a₀ lo st')
    (Q := fun c st' => c = (none, a₀.size) ∧ RS a₀ a₀.size st') ?_ ?_ ⟨0, rfl, Nat.zero_le _, .inl (Nat.le_refl _), R⟩) ?_)
  · clear R hz
    rintro x c st _ hx ⟨lo, rfl, hlo, hxl, R⟩
    extract_lets -merge lov jp force nf
    by_cases c1 : lo ≥ a₀.size
    · rw [if_pos c1]
      obtain rfl : lo = a₀.size := by lia
      exact wpS_pure ⟨rfl, R⟩
    rw [if_neg c1]
    have hz : (arrOf st).size = a₀.size := R.perm.size_eq
    have iz : IntKeys (arrOf st) := intPerm h0 R.perm
    refine wpS_bind (wpS_countAt (st₀ := st) ⟨R.kind, R.failed, rfl, .refl _ _ _⟩ iz (show lo + (a₀.size - lo) ≤ _ by lia) (show 1 ≤ a₀.size - lo by lia) fun n st1 B n1 n2 r1 => ?_)
    replace n2 : n ≤ a₀.size - lo := n2
    replace r1 : Rise (arrOf st1) lo n := r1
    refine wpS_post (fun P => ∀ lo' st', lo' ≤ a₀.size → x + 1 ≤ lo' → RS a₀ lo' st' → P (.yield (none, lo')) st') (fun lo' st' q1 q2 q3 => ⟨lo', rfl, q1, .inl q2, q3⟩) fun P hP => ?_
    have hjp : ∀ n st2, SB lo (lo + (a₀.size - lo)) st st2 → 1 ≤ n → n ≤ a₀.size - lo → Rise (arrOf st2) lo n → wpS (model prog w) A E s (jp () n) P st2 := by
      clear B r1 n1 n2 n
      intro n st2 B n1 n2 r1
      refine wpS_bind (wpS_get ?_)
      extract_lets -merge lo1 jpi
      have R2 : RS a₀ lo st2 := ⟨B.kind, B.failed, B.anew.perm.trans R.perm, by rw [B.pend]; exact R.segs.congr fun k _ hk => K_congr (B.anew.out k (.inl hk))⟩
      have g2 : Seg (arrOf st2) lo (lo + n) := fun i j i1 i2 i3 => by
        have := r1 (i - lo) (j - lo) (by lia) (by lia)
        rwa [show lo + (i - lo) = i by lia, show lo + (j - lo) = j by lia] at this
      have hjpi : ∀ st3, RS a₀ lo st3 → Seg (arrOf st3) lo (lo + n) → wpS (model prog w) A E s (jpi ()) P st3 := by
        intro st3 R3 g3
        refine wpS_bind (wpS_modify (wpS_pure (hP (lo + n) _ (by lia) (by lia) ⟨R3.kind, R3.failed, R3.perm, ?_⟩)))
        show Segs (arrOf st3) ((pendingOf st3).push (lo, n, 0)).toList 0 (lo + n)
        rw [Array.toList_push]
        exact Segs.app.mpr ⟨lo, R3.segs, rfl, n1, g3, rfl⟩
      clear_value jpi
      cases hb : (pendingOf st2).back? with
      | none => exact hjpi st2 R2 g2
      | some q =>
        obtain ⟨s1, m1, p1⟩ := q
        dsimp -zeta only
        extract_lets -merge pw
        refine wpS_bind (wpS_mono (wpS_forRange (I := fun _ c st' => c = (none, ()) ∧ RS a₀ lo st' ∧ Seg (arrOf st') lo (lo + n)) (Q := fun c st' => c = (none, ()) ∧ RS a₀ lo st' ∧ Seg (arrOf st') lo (lo + n)) ?_ (fun _ _ h => h) ⟨rfl, R2, g2⟩) ?_)
        · clear R2 g2 hb r1 B
          rintro y c st3 _ _ ⟨rfl, R3, g3⟩
          refine wpS_bind (wpS_get ?_)
          extract_lets -merge p
          split
          · rename_i older hq
            split
            · exact wpS_pure ⟨rfl, R3, g3⟩
            · have hp : 1 < p.size := by
                by_cases hh : p.size > 1
                · exact hh
                · rw [if_neg hh] at hq; exact nomatch hq
              have hp' : 1 < (pendingOf st3).size := hp
              refine wpS_bind (wpS_mergeRS h0 R3 hlo (show (pendingOf st3).size - 2 + 1 < (pendingOf st3).size by lia) fun st4 R4 _ k4 => ?_)
              refine wpS_pure ⟨rfl, R4, fun i j i1 i2 i3 => ?_⟩
              rw [K_congr (k4 i i1), K_congr (k4 j (by lia))]; exact g3 i j i1 i2 i3
          · exact wpS_pure ⟨rfl, R3, g3⟩
        · clear R2 g2 hb r1 B
          rintro c st3 ⟨rfl, R3, g3⟩
          refine wpS_bind (wpS_modify (hjpi _ ⟨R3.kind, R3.failed, R3.perm, ?_⟩ g3))
          show Segs (arrOf st3) ((pendingOf st3).modify _ _).toList 0 lo
          rw [Array.toList_modify]
          exact Segs.modify (f := fun x => (x.1, x.2.1, pw)) (fun _ => ⟨rfl, rfl⟩) R3.segs
    clear_value jp
    dsimp -zeta only
    extract_lets -merge nv
    by_cases c2 : n < minrun
    · rw [if_pos c2]
      refine wpS_bind (wpS_rule ?_)
      refine wpS_bind (wpS_binAt (hi := a₀.size - lo) (n := min (a₀.size - lo) minrun) iz B (by lia) (Nat.min_le_left _ _) (by show n ≤ _; lia) r1 fun st2 B2 r2 => ?_)
      exact hjp _ _ B2 (by lia) (Nat.min_le_left _ _) r2
    · rw [if_neg c2]
      exact hjp _ _ B n1 n2 r1
  · rintro c st' ⟨lo, rfl, hlo, hxl, R⟩
    obtain rfl : lo = a₀.size := by
      have : max 0 size = a₀.size := Nat.max_eq_right (Nat.zero_le _)
      lia
    exact ⟨rfl, R⟩
  · clear R hz
    rintro c st ⟨rfl, R⟩
    dsimp only
    have hle := R.segs.le
    rw [Array.length_toList, Nat.zero_add] at hle
    refine wpS_bind (wpS_mono (wpS_forRange
      (I := fun x c st' => c = (none, ()) ∧ RS a₀ a₀.size st' ∧ x + (pendingOf st').size ≤ a₀.size + 1 ∨ c = (none, ()) ∧ RS a₀ a₀.size st' ∧ (pendingOf st').size ≤ 1)
      (Q := fun c st' => c = (none, ()) ∧ RS a₀ a₀.size st' ∧ (pendingOf st').size ≤ 1) ?_ ?_ (.inl ⟨rfl, R, by lia⟩)) ?_)
    · clear R hle
      intro x c st _ hx hI
      obtain ⟨rfl, R, hor⟩ : c = (none, ()) ∧ RS a₀ a₀.size st ∧ (x + (pendingOf st).size ≤ a₀.size + 1 ∨ (pendingOf st).size ≤ 1) := by
        rcases hI with ⟨a, b, c⟩ | ⟨a, b, c⟩
        · exact ⟨a, b, .inl c⟩
        · exact ⟨a, b, .inr c⟩
      refine wpS_bind (wpS_get ?_)
      by_cases c1 : (pendingOf st).size ≤ 1
      · rw [if_pos c1]
        exact wpS_pure ⟨rfl, R, c1⟩
      rw [if_neg c1]
      have hif : ∀ (c : Prop) [Decidable c], (if c then (pendingOf st).size - 2 - 1 else (pendingOf st).size - 2) + 1 < (pendingOf st).size := fun c _ => by split <;> lia
      refine wpS_bind (wpS_mergeRS h0 R (Nat.le_refl _) (hif _) fun st' R' e _ => wpS_pure (.inl ⟨rfl, R', by lia⟩))
    · rintro c st' (⟨rfl, R, e⟩ | ⟨rfl, R, e⟩)
      · refine ⟨rfl, R, ?_⟩
        have : max 0 size = a₀.size := Nat.max_eq_right (Nat.zero_le _)
        lia
      · exact ⟨rfl, R, e⟩
    · rintro c st' ⟨rfl, R, e⟩
      refine wpS_pure (h st' R.perm R.failed ?_)
      have S := R.segs
      have hl : (pendingOf st').toList.length ≤ 1 := by rw [Array.length_toList]; exact e
      cases hp : (pendingOf st').toList with
      | nil =>
        rw [hp] at S
        replace S : 0 = a₀.size := S
        lia
      | cons q r =>
        rw [hp] at S hl
        cases r with
        | cons _ _ => simp at hl
        | nil =>
          obtain ⟨_, _, g, e⟩ := S
          replace e : 0 + q.2.1 = a₀.size := e
          rw [e] at g
          exact fun i j hij hj => g i j (Nat.zero_le _) hij hj
end
end Fl

namespace Fl
open PySem PyProof.Rows
section
variable {prog : Program} {w : World} {A : Around} {E : Value → Shared → Prop} {s : Shared}
theorem sort_tree {a : Addr} {vs : List Value} {ns : List Int} {n : Nat} {P : Fin → Shared → Prop} (ho : s.heap.get? a = some (seqObj "list" vs.toArray n))
    (hI : IntsAre vs ns) (hlen : vs.length ≤ 16777216)
    (h : ∀ (out : Array Value) (ns' : List Int), IntsAre out.toList ns' → ns'.Perm ns → ns'.Pairwise (· ≤ ·) → P (.done (.ret .none)) { s with heap := sortedHeap s.heap a vs out }) :
    wpAny (model prog w) A (Builtin.«list.sort» ⟨[.ref a], []⟩) P E s := by
  by_cases h64 : vs.length < 64
  · exact list_sort_tree ho hI h64 h
  rw [list_sort_plain]
  have ha : a < s.heap.objs.size := Heap.lt_size ho
  refine wpAny_bind (listItems_at ho rfl ?_)
  have hszv : vs.toArray.size ≤ sizeLine := by rw [sizeLine_eq]; simpa using hlen
  refine wpAny_bind (listUpdate_at ho rfl ?_ (hsz := hszv))
  obtain ⟨e1, q1⟩ : ∃ e1, (s.heap.update a (Obj.mapSeq fun _ => #[])).get? a = some (seqObj "list" #[] e1) := ⟨_, get?_update_seq ho fun _ => #[]⟩
  refine wpAny_bind (seqEpoch_at q1 rfl ?_)
  refine wpAny_bind (wpAny_newTuple ?_)
  refine wpAny_bind (wpAny_newList ?_)
  refine wpAny_holding ?_
  have q2 : (((s.heap.update a (Obj.mapSeq fun _ => #[])).push (seqObj "tuple" vs.toArray 0)).push (seqObj "list" #[] 0)).get? a = some (seqObj "list" #[] e1) :=
    Heap.get?_push_of_some _ (Heap.get?_push_of_some _ q1)
  show wpAny (model prog w) A _ P E { s with heap := ((s.heap.update a (Obj.mapSeq fun _ => #[])).push (seqObj "tuple" vs.toArray 0)).push (seqObj "list" #[] 0) }
  dsimp only
  have c : ¬ vs.toArray.size < 2 := by rw [List.size_toArray]; lia
  rw [if_neg c, if_neg c]
  have K0 : keyKind' vs.toArray = pure oneType' := by
    match vs, h64 with
    | [], h64 => exact absurd (Nat.zero_lt_succ _) h64
    | [_], h64 => exact absurd (Nat.succ_lt_succ (Nat.zero_lt_succ _)) h64
    | v₁ :: v₂ :: rest, _ => exact keyKind_ints hI
  rw [K0]
  refine wpAny_bind (wpAny_pure ?_)
  refine wpAny_bind (wpAny_mono (wpS_sortAll (a₀ := pairsOf vs) (st := SortSt.mk' oneType' (vs.toArray.zip vs.toArray) #[] 7 none)
    (Q := fun _ st' => (arrOf st').Perm (pairsOf vs) ∧ failedOf st' = none ∧ SortedTo (arrOf st') (pairsOf vs).size)
    hI.intKeys ⟨rfl, rfl, Array.Perm.refl _, rfl⟩ (by rw [pairsOf_size]; lia) fun st' a1 a2 a3 => ⟨a1, a2, a3⟩) ?_ fun _ _ e => e)
  rintro ⟨⟨⟩, st'⟩ s' ⟨rfl, hp, hf, hs⟩
  dsimp only
  refine wpAny_bind (seqEpoch_at q2 rfl ?_)
  have z2 : ((arrOf st').map (·.2)).size ≤ sizeLine + 1 := by
    rw [Array.size_map, hp.size_eq, pairsOf_size, sizeLine_eq]; lia
  refine wpAny_bind (listUpdate_at q2 rfl ?_ (hsz2 := z2))
  rw [hf]
  simp only [bne_self_eq_false, Bool.false_eq_true, if_false]
  obtain ⟨ns', b1, b2, b3⟩ := sorted_out hI hp hs
  exact wpAny_pure (h _ ns' b1 b2 b3)
end
end Fl

namespace Fl
open PySem PyProof.Rows

/-- the names of a frame and what they hold, where it is known -/
abbrev Rho := List (Str × Option Value)
inductive Look (x : Str) (v : Value) : Rho → Prop
  | head {r} : Look x v ((x, some v) :: r)
  | tail {p r} : Look x v r → Look x v (p :: r)
inductive Put (x : Str) (v : Value) : Rho → Rho → Prop
  | head {w r} : Put x v ((x, w) :: r) ((x, some v) :: r)
  | tail {p r r'} : Put x v r r' → Put x v (p :: r) (p :: r')
theorem Look.mem {x : Str} {v : Value} {ρ : Rho} (h : Look x v ρ) : x ∈ ρ.map (·.1) := by
  induction h with
  | head => exact List.mem_cons_self ..
  | tail _ ih => exact List.mem_cons_of_mem _ ih
theorem Look.in_ {x : Str} {v : Value} {ρ : Rho} (h : Look x v ρ) : (x, some v) ∈ ρ := by
  induction h with
  | head => exact List.mem_cons_self ..
  | tail _ ih => exact List.mem_cons_of_mem _ ih
theorem Put.names {x : Str} {v : Value} {ρ ρ' : Rho} (h : Put x v ρ ρ') : ρ'.map (·.1) = ρ.map (·.1) := by
  induction h with
  | head => rfl
  | tail _ ih => simp only [List.map_cons, ih]
theorem Put.mem {x : Str} {v : Value} {ρ ρ' : Rho} (h : Put x v ρ ρ') : x ∈ ρ.map (·.1) := by
  induction h with
  | head => exact List.mem_cons_self ..
  | tail _ ih => exact List.mem_cons_of_mem _ ih
/-- what is looked up behind a store: the name stored, or another name as before -/
theorem Put.look {x : Str} {v : Value} {ρ ρ' : Rho} (h : Put x v ρ ρ') (nd : (ρ.map (·.1)).Nodup) {y : Str} {u : Value} (hy : Look y u ρ') : (y = x ∧ u = v) ∨ (y ≠ x ∧ Look y u ρ) := by
  induction h with
  | head =>
    cases hy with
    | head => exact .inl ⟨rfl, rfl⟩
    | tail hy =>
      refine .inr ⟨fun e => ?_, .tail hy⟩
      rw [List.map_cons, List.nodup_cons] at nd
      exact nd.1 (e ▸ hy.mem)
  | tail hp ih =>
    rw [List.map_cons, List.nodup_cons] at nd
    cases hy with
    | head => exact .inr ⟨fun e => nd.1 (e ▸ hp.mem), .head⟩
    | tail hy =>
      rcases ih nd.2 hy with h | ⟨h1, h2⟩
      · exact .inl h
      · exact .inr ⟨h1, .tail h2⟩

/-- all that stands in h stands in h' -/
abbrev Sub (h h' : Heap) : Prop := ∀ b o, h.get? b = some o → h'.get? b = some o
theorem Sub.refl (h : Heap) : Sub h h := fun _ _ e => e
theorem Sub.trans {h₁ h₂ h₃ : Heap} (x : Sub h₁ h₂) (y : Sub h₂ h₃) : Sub h₁ h₃ := fun b o e => y b o (x b o e)
theorem Sub.none {h h' : Heap} (x : Sub h h') {a : Addr} (e : h'.get? a = none) : h.get? a = none := by
  cases q : h.get? a with
  | none => rfl
  | some o => rw [x _ _ q] at e; cases e

/-- the state of a frame in its run: b whether it may store; s₀ the state that it was entered in, h₀ a part of the heap that stays, ρ what its names hold, Λ objects that may be changed -/
structure CS (b : Bool) (s₀ : Shared) (h₀ : Heap) (env : Env) (ρ : Rho) (Λ : List (Addr × Obj)) (s : Shared) : Prop where
  kind : env.scope.kind = .function
  same : ∃ h tk, s = { s₀ with heap := h, toks := tk }
  base : Sub h₀ s.heap
  all : b = false → Sub s₀.heap s.heap
  ns : ∃ m, s.heap.Ns env.locals m ∧ ∀ x v, Look x v ρ → env.kindOf x = some .local → m x = some v
  cell : ∀ x v c, Look x v ρ → env.kindOf x = some .cell → env.cells.lookup x = some c → s.heap.IsCell c (some v)
  cells : ∀ n c, env.cells.lookup n = some c → (∃ v, s.heap.IsCell c v) ∧ c ≠ env.locals ∧ (b = true → h₀.get? c = none)
  apart : ∀ n n' c, env.cells.lookup n = some c → env.cells.lookup n' = some c → n = n'
  kinds : ∀ x, x ∈ ρ.map (·.1) → env.kindOf x = some .local ∨ (env.kindOf x = some .cell ∧ ∃ c, env.cells.lookup x = some c)
  locs : b = true → h₀.get? env.locals = none
  nd : (ρ.map (·.1)).Nodup
  led : ∀ p ∈ Λ, s.heap.get? p.1 = some p.2 ∧ p.1 ≠ env.locals ∧ (∀ n, env.cells.lookup n ≠ some p.1) ∧ (b = true → h₀.get? p.1 = none)
  lnd : (Λ.map (·.1)).Nodup

namespace CS
variable {b : Bool} {s₀ s s' : Shared} {h₀ h₁ : Heap} {env : Env} {ρ ρ' : Rho} {Λ Λ' : List (Addr × Obj)}

theorem keeps (S : CS b s₀ h₀ env ρ Λ s) (k : Keeps s s') : CS b s₀ h₀ env ρ Λ s' := by
  obtain ⟨h', tk, rfl, hk⟩ := k
  refine ⟨S.kind, ?_, S.base.trans hk, fun q => (S.all q).trans hk, ?_, fun x v c a b d => (S.cell x v c a b d).keeps hk, fun n c e => ?_, S.apart, S.kinds, S.locs, S.nd, fun p hp => ?_, S.lnd⟩
  · obtain ⟨h, t, rfl⟩ := S.same; exact ⟨h', tk, rfl⟩
  · obtain ⟨m, hn, hm⟩ := S.ns; exact ⟨m, hn.keeps hk, hm⟩
  · obtain ⟨⟨v, hv⟩, r⟩ := S.cells n c e; exact ⟨⟨v, hv.keeps hk⟩, r⟩
  · obtain ⟨a, r⟩ := S.led p hp; exact ⟨hk _ _ a, r⟩
theorem tok (S : CS b s₀ h₀ env ρ Λ s) (tk : Nat) : CS b s₀ h₀ env ρ Λ { s with toks := tk } := S.keeps ⟨s.heap, tk, rfl, fun _ _ e => e⟩
/-- a frame that changes nothing that stood: behind it all stands as before -/
theorem out (S : CS b s₀ s₀.heap env ρ Λ s) : Keeps s₀ s := by
  obtain ⟨h, tk, e⟩ := S.same
  refine ⟨h, tk, e, fun b o q => ?_⟩
  have := S.base b o q
  rw [e] at this; exact this
theorem quiet (S : CS false s₀ h₀ env ρ Λ s) : Keeps s₀ s := by
  obtain ⟨h, tk, e⟩ := S.same
  refine ⟨h, tk, e, fun b o q => ?_⟩
  have := S.all rfl b o q
  rw [e] at this; exact this
/-- a smaller part that stays -/
theorem drop (S : CS b s₀ h₁ env ρ Λ s) (k : Sub h₀ h₁) : CS b s₀ h₀ env ρ Λ s :=
  ⟨S.kind, S.same, k.trans S.base, S.all, S.ns, S.cell, fun n c e => let ⟨a, b, c⟩ := S.cells n c e; ⟨a, b, fun q => k.none (c q)⟩, S.apart, S.kinds, fun q => k.none (S.locs q), S.nd,
    fun p hp => let ⟨a, b, c, d⟩ := S.led p hp; ⟨a, b, c, fun q => k.none (d q)⟩, S.lnd⟩

theorem look {x : Str} {v : Value} {Q : Value → Shared → Prop} {M : Model} {A : Around} {E : Value → Shared → Prop} (S : CS b s₀ h₀ env ρ Λ s) (hx : Look x v ρ) (h : Q v s) : wpAny M A (loadName env x) Q E s := by
  rcases S.kinds x hx.mem with hl | ⟨hc, c, hcl⟩
  · obtain ⟨m, hn, hm⟩ := S.ns
    exact wpAny_loadName_local S.kind hl hn (hm x v hx hl) h
  · exact wpAny_loadName_cell S.kind hc hcl (S.cell x v c hx hc hcl) h

theorem put {x : Str} {v : Value} {Q : Unit → Shared → Prop} {M : Model} {A : Around} {E : Value → Shared → Prop} (S : CS true s₀ h₀ env ρ Λ s) (hx : Put x v ρ ρ')
    (h : ∀ s', CS true s₀ h₀ env ρ' Λ s' → Q () s') : wpAny M A (storeName env x v) Q E s := by
  have nd' : (ρ'.map (·.1)).Nodup := hx.names ▸ S.nd
  have kinds' : ∀ y, y ∈ ρ'.map (·.1) → env.kindOf y = some .local ∨ (env.kindOf y = some .cell ∧ ∃ c, env.cells.lookup y = some c) := fun y hy => S.kinds y (hx.names ▸ hy)
  rcases S.kinds x hx.mem with hl | ⟨hc, c, hcl⟩
  · obtain ⟨m, hn, hm⟩ := S.ns
    refine wpAny_storeName_local hl hn (fun h' hn' hs' => h _ ?_) (by rw [S.kind]; rfl)
    have up : ∀ b o, b ≠ env.locals → s.heap.get? b = some o → h'.get? b = some o := fun b o hb e => hs'.extBut b o hb e
    refine ⟨S.kind, ?_, fun b o e => up b o (fun q => ?_) (S.base b o e), (fun q => nomatch q), ⟨_, hn', fun y u hy hk => ?_⟩, fun y u c hy hk hc => ?_, fun n c e => ?_, S.apart, kinds', S.locs, nd', fun p hp => ?_, S.lnd⟩
    · obtain ⟨h, t, rfl⟩ := S.same; exact ⟨h', _, rfl⟩
    · rw [q, S.locs rfl] at e; cases e
    · rcases hx.look S.nd hy with ⟨rfl, rfl⟩ | ⟨h1, h2⟩
      · exact if_pos rfl
      · exact (if_neg h1).trans (hm y u h2 hk)
    · rcases hx.look S.nd hy with ⟨rfl, rfl⟩ | ⟨h1, h2⟩
      · rw [hl] at hk; cases hk
      · exact (S.cell y u c h2 hk hc).sameBut hs' (S.cells y c hc).2.1
    · obtain ⟨⟨w, hw⟩, r⟩ := S.cells n c e
      exact ⟨⟨w, hw.sameBut hs' r.1⟩, r⟩
    · obtain ⟨a, b, r⟩ := S.led p hp
      exact ⟨up _ _ b a, b, r⟩
  · obtain ⟨⟨v₀, hv₀⟩, hcL, hc0⟩ := S.cells x c hcl
    refine wpAny_storeName_cell S.kind hc hcl hv₀ (fun h' hn' hs' => h _ ?_)
    have up : ∀ b o, b ≠ c → s.heap.get? b = some o → h'.get? b = some o := fun b o hb e => hs'.extBut b o hb e
    obtain ⟨m, hn, hm⟩ := S.ns
    refine ⟨S.kind, ?_, fun b o e => up b o (fun q => ?_) (S.base b o e), (fun q => nomatch q), ⟨m, hn.sameBut hs' hcL.symm, fun y u hy hk => ?_⟩, fun y u c' hy hk hc' => ?_, fun n c' e => ?_, S.apart, kinds', S.locs, nd', fun p hp => ?_, S.lnd⟩
    · obtain ⟨h, t, rfl⟩ := S.same; exact ⟨h', _, rfl⟩
    · rw [q, hc0 rfl] at e; cases e
    · rcases hx.look S.nd hy with ⟨rfl, rfl⟩ | ⟨h1, h2⟩
      · rw [hc] at hk; cases hk
      · exact hm y u h2 hk
    · rcases hx.look S.nd hy with ⟨rfl, rfl⟩ | ⟨h1, h2⟩
      · rw [hcl] at hc'; cases hc'; exact hn'
      · refine (S.cell y u c' h2 hk hc').sameBut hs' fun q => h1 ?_
        subst q; exact S.apart _ _ _ hc' hcl
    · obtain ⟨⟨w, hw⟩, r⟩ := S.cells n c' e
      by_cases q : c' = c
      · exact ⟨⟨_, q ▸ hn'⟩, r⟩
      · exact ⟨⟨w, hw.sameBut hs' q⟩, r⟩
    · obtain ⟨a, b, c', d⟩ := S.led p hp
      exact ⟨up _ _ (fun q => c' x (q ▸ hcl)) a, b, c', d⟩

/-- the objects' addresses of a frame's own -/
def own (env : Env) (Λ : List (Addr × Obj)) (a : Addr) : Prop := a = env.locals ∨ (∃ n, env.cells.lookup n = some a) ∨ a ∈ Λ.map (·.1)
theorem own_at (S : CS b s₀ h₀ env ρ Λ s) {a : Addr} (h : own env Λ a) : ∃ o, s.heap.get? a = some o := by
  rcases h with rfl | ⟨n, e⟩ | h
  · obtain ⟨m, ⟨o, _, _, q, _⟩, _⟩ := S.ns; exact ⟨o, q⟩
  · obtain ⟨⟨v, o, q, _⟩, _⟩ := S.cells n a e; exact ⟨o, q⟩
  · obtain ⟨p, hp, rfl⟩ := List.mem_map.mp h; exact ⟨_, (S.led p hp).1⟩
theorem own_no (S : CS true s₀ h₀ env ρ Λ s) {a : Addr} (h : own env Λ a) : h₀.get? a = none := by
  rcases h with rfl | ⟨n, e⟩ | h
  · exact S.locs rfl
  · exact (S.cells n a e).2.2 rfl
  · obtain ⟨p, hp, rfl⟩ := List.mem_map.mp h; exact (S.led p hp).2.2.2 rfl
/-- another part that stays: any part of the heap that holds none of the frame's own -/
theorem rebase (S : CS b s₀ h₀ env ρ Λ s) (k : Sub h₁ s.heap) (n : ∀ a, own env Λ a → h₁.get? a = none) : CS b s₀ h₁ env ρ Λ s :=
  ⟨S.kind, S.same, k, S.all, S.ns, S.cell, fun x c e => let ⟨a, b, _⟩ := S.cells x c e; ⟨a, b, fun _ => n _ (.inr (.inl ⟨x, e⟩))⟩, S.apart, S.kinds, fun _ => n _ (.inl rfl), S.nd,
    fun p hp => let ⟨a, b, c, _⟩ := S.led p hp; ⟨a, b, c, fun _ => n _ (.inr (.inr (List.mem_map_of_mem hp)))⟩, S.lnd⟩
end CS
end Fl

namespace Fl
open PySem PyProof.Rows

open Classical in
/-- the heap without the objects at some addresses -/
noncomputable def without (h : Heap) (P : Addr → Prop) : Heap := { h with objs := h.objs.mapIdx fun i o => if P i then { o with data := .freed } else o }
theorem without_none {h : Heap} {P : Addr → Prop} {a : Addr} (p : P a) : (without h P).get? a = none := by
  cases q : (without h P).get? a with
  | none => rfl
  | some o =>
    obtain ⟨h1, h2⟩ := Heap.get?_some_iff.mp q
    unfold without at h1
    rw [Array.getElem?_mapIdx] at h1
    cases e : h.objs[a]? with
    | none => rw [e] at h1; cases h1
    | some o' => rw [e] at h1; simp only [Option.map_some, if_pos p, Option.some.injEq] at h1; subst h1; cases h2
theorem without_get {h : Heap} {P : Addr → Prop} {a : Addr} {o : Obj} (p : ¬ P a) (e : h.get? a = some o) : (without h P).get? a = some o := by
  obtain ⟨h1, h2⟩ := Heap.get?_some_iff.mp e
  refine Heap.get?_some_iff.mpr ⟨?_, h2⟩
  unfold without
  rw [Array.getElem?_mapIdx, h1]
  simp only [Option.map_some, if_neg p]
theorem of_without {h : Heap} {P : Addr → Prop} {a : Addr} {o : Obj} (e : (without h P).get? a = some o) : h.get? a = some o ∧ ¬ P a := by
  by_cases p : P a
  · rw [without_none p] at e; cases e
  · refine ⟨?_, p⟩
    obtain ⟨h1, h2⟩ := Heap.get?_some_iff.mp e
    refine Heap.get?_some_iff.mpr ⟨?_, h2⟩
    unfold without at h1
    rw [Array.getElem?_mapIdx] at h1
    cases q : h.objs[a]? with
    | none => rw [q] at h1; cases h1
    | some o' => rw [q] at h1; simp only [Option.map_some, if_neg p] at h1; exact h1
theorem without_sub (h : Heap) (P : Addr → Prop) : Sub (without h P) h := fun _ _ e => (of_without e).1

theorem fresh_none {h : Heap} {a : Addr} (k : h.objs.size ≤ a) : h.get? a = none := by
  cases q : h.get? a with
  | none => rfl
  | some o => exact absurd (Heap.lt_size q) (Nat.not_lt.mpr k)

namespace CS
variable {b : Bool} {s₀ s s' : Shared} {h₀ h₁ : Heap} {env : Env} {ρ ρ' : Rho} {Λ Λ' : List (Addr × Obj)}
/-- all that stands but the frame's own stays from now on -/
theorem wide (S : CS true s₀ h₀ env ρ Λ s) : ∃ h₁, Sub h₀ h₁ ∧ CS true s₀ h₁ env ρ Λ s ∧ ∀ a o, s.heap.get? a = some o → ¬ own env Λ a → h₁.get? a = some o := by
  refine ⟨without s.heap (own env Λ), fun a o e => without_get (fun h => ?_) (S.base a o e), S.rebase (without_sub _ _) fun a h => without_none h, fun a o e h => without_get h e⟩
  rw [S.own_no h] at e; cases e
/-- what a call has made newly (it changed nothing that stood) stays from now on -/
theorem grow (S : CS true s₀ h₀ env ρ Λ s) (k : Keeps s s') : ∃ h₁, Sub h₀ h₁ ∧ CS true s₀ h₁ env ρ Λ s' ∧ ∀ a o, s.heap.get? a = none → s'.heap.get? a = some o → h₁.get? a = some o := by
  obtain ⟨h₁, h1, h2, h3⟩ := (S.keeps k).wide
  refine ⟨h₁, h1, h2, fun a o e q => h3 a o q fun w => ?_⟩
  obtain ⟨o', w⟩ := S.own_at w
  rw [w] at e; cases e
end CS

/-- the names of a def's frame at its start -/
def rho0 (names : List (Str × NameKind)) (binds : List (Str × Value)) : Rho := names.filterMap fun x => if x.2 = .local ∨ x.2 = .cell then some (x.1, binds.lookup x.1) else none

theorem lookup_of_nodup {α : Type} : ∀ {l : List (Str × α)} {x : Str} {v : α}, (l.map (·.1)).Nodup → (x, v) ∈ l → l.lookup x = some v
  | (y, u) :: r, x, v, nd, h => by
    rw [List.map_cons, List.nodup_cons] at nd
    rw [List.lookup_cons]
    rcases List.mem_cons.mp h with e | h'
    · cases e; simp
    · have : (x == y) = false := by
        rw [beq_eq_false_iff_ne]
        intro q
        exact nd.1 (List.mem_map.mpr ⟨(x, v), h', q⟩)
      rw [this]
      exact lookup_of_nodup nd.2 h'

theorem bindL_look {kindOf : Str → Option NameKind} : ∀ {binds : List (Str × Value)} {m : Str → Option Value} {x : Str}, (binds.map (·.1)).Nodup → kindOf x = some .local →
    bindL kindOf binds m x = (match binds.lookup x with | some v => some v | none => m x)
  | [], _, _, _, _ => rfl
  | (n, v) :: r, m, x, nd, hk => by
    rw [List.map_cons, List.nodup_cons] at nd
    simp only [bindL, List.lookup_cons]
    rw [bindL_look nd.2 hk]
    by_cases e : x = n
    · subst e
      have hr : r.lookup x = none := by
        cases q : r.lookup x with
        | none => rfl
        | some u => exact absurd (List.mem_map.mpr ⟨(x, u), mem_of_lookup q, rfl⟩) nd.1
      simp [hr, hk]
    · have hb : (x == n) = false := beq_eq_false_iff_ne.mpr e
      rw [hb]
      cases r.lookup x with
      | some u => rfl
      | none =>
        show (if kindOf n = some .local then fun y => if y = n then some v else m y else m) x = m x
        split
        · exact if_neg e
        · rfl
theorem bindC_look {kindOf : Str → Option NameKind} : ∀ {binds : List (Str × Value)} {m : Str → Option Value} {x : Str}, (binds.map (·.1)).Nodup → kindOf x = some .cell →
    bindC kindOf binds m x = (match binds.lookup x with | some v => some v | none => m x)
  | [], _, _, _, _ => rfl
  | (n, v) :: r, m, x, nd, hk => by
    rw [List.map_cons, List.nodup_cons] at nd
    simp only [bindC, List.lookup_cons]
    rw [bindC_look nd.2 hk]
    by_cases e : x = n
    · subst e
      have hr : r.lookup x = none := by
        cases q : r.lookup x with
        | none => rfl
        | some u => exact absurd (List.mem_map.mpr ⟨(x, u), mem_of_lookup q, rfl⟩) nd.1
      simp [hr, hk]
    · have hb : (x == n) = false := beq_eq_false_iff_ne.mpr e
      rw [hb]
      cases r.lookup x with
      | some u => rfl
      | none =>
        show (if kindOf n = some .local then m else fun y => if y = n then some v else m y) x = m x
        split
        · rfl
        · exact if_neg e

theorem rho0_in {names : List (Str × NameKind)} {binds : List (Str × Value)} {x : Str} {v : Option Value} (h : (x, v) ∈ rho0 names binds) : ∃ k, (x, k) ∈ names ∧ (k = .local ∨ k = .cell) ∧ binds.lookup x = v := by
  obtain ⟨⟨y, k⟩, h1, h2⟩ := List.mem_filterMap.mp h
  split at h2
  · rename_i hk
    cases h2
    exact ⟨k, h1, hk, rfl⟩
  · cases h2
theorem rho0_nodup : ∀ {names : List (Str × NameKind)} {binds : List (Str × Value)}, (names.map (·.1)).Nodup → ((rho0 names binds).map (·.1)).Nodup
  | [], _, _ => List.nodup_nil
  | (y, k) :: r, binds, nd => by
    rw [List.map_cons, List.nodup_cons] at nd
    unfold rho0
    rw [List.filterMap_cons]
    split
    · exact rho0_nodup nd.2
    · rename_i b hb
      split at hb
      · cases hb
        rw [List.map_cons, List.nodup_cons]
        refine ⟨fun h => nd.1 ?_, rho0_nodup nd.2⟩
        obtain ⟨⟨x, v⟩, h1, h2⟩ := List.mem_map.mp h
        obtain ⟨k', h3, _⟩ := rho0_in h1
        exact List.mem_map.mpr ⟨(x, k'), h3, h2⟩
      · cases hb

/-- the frame of a def at its start -/
theorem enterCS {s s₁ : Shared} {fd : FuncData} {a : Addr} {binds : List (Str × Value)} {h₀ : Heap} {Λ : List (Addr × Obj)}
    (x : InCallC s (callEnvC fd s.heap.objs.size a).locals (bindL (callEnvC fd s.heap.objs.size a).kindOf binds fun _ => none) (callEnvC fd s.heap.objs.size a).cells (bindC (callEnvC fd s.heap.objs.size a).kindOf binds fun _ => none) s₁)
    (hk : fd.scope.kind = .function) (hnd : (fd.scope.names.map (·.1)).Nodup) (hbd : (binds.map (·.1)).Nodup) (hcs : ∀ n, fd.scope.names.lookup n = some .cell → ∃ c, (callEnvC fd s.heap.objs.size a).cells.lookup n = some c)
    (hb : Sub h₀ s.heap) (hΛ : ∀ p ∈ Λ, s.heap.get? p.1 = some p.2 ∧ h₀.get? p.1 = none) (hΛn : (Λ.map (·.1)).Nodup) : CS true s h₀ (callEnvC fd s.heap.objs.size a) (rho0 fd.scope.names binds) Λ s₁ := by
  have kin : ∀ {y : Str} {v : Option Value}, (y, v) ∈ rho0 fd.scope.names binds → ((callEnvC fd s.heap.objs.size a).kindOf y = some .local ∨ (callEnvC fd s.heap.objs.size a).kindOf y = some .cell) ∧ binds.lookup y = v := fun h => by
    obtain ⟨k, h1, h2, h3⟩ := rho0_in h
    refine ⟨?_, h3⟩
    show fd.scope.names.lookup _ = _ ∨ fd.scope.names.lookup _ = _
    rw [lookup_of_nodup hnd h1]
    rcases h2 with rfl | rfl
    · exact .inl rfl
    · exact .inr rfl
  have up : ∀ {c : Addr}, s.heap.objs.size ≤ c → h₀.get? c = none := fun h => hb.none (fresh_none h)
  have hL : (callEnvC fd s.heap.objs.size a).locals = s.heap.objs.size := rfl
  refine ⟨hk, x.toInCall.same, hb.trans x.toInCall.keep, (fun q => nomatch q), ⟨_, x.toInCall.ns, fun y v hy hl => ?_⟩, fun y v c hy hl hc => ?_, fun n c e => ⟨⟨_, x.cell n c e⟩, ?_, fun _ => up ?_⟩, fun n n' c e e' => ?_, fun y hy => ?_, fun _ => up (Nat.le_refl _), rho0_nodup hnd,
    fun p hp => ⟨x.toInCall.keep _ _ (hΛ p hp).1, ?_, fun n e => ?_, fun _ => (hΛ p hp).2⟩, hΛn⟩
  · rw [bindL_look hbd hl, (kin hy.in_).2]
  · have := x.cell y c hc
    rw [bindC_look hbd hl, (kin hy.in_).2] at this
    exact this
  · exact Nat.ne_of_gt (x.above n c (mem_of_lookup e))
  · exact Nat.le_of_lt (x.above n c (mem_of_lookup e))
  · exact name_of_addr x.apart (mem_of_lookup e) (mem_of_lookup e')
  · obtain ⟨⟨y', v⟩, h1, rfl⟩ := List.mem_map.mp hy
    rcases (kin h1).1 with h | h
    · exact .inl h
    · exact .inr ⟨h, hcs _ h⟩
  · exact Nat.ne_of_lt (Heap.lt_size (hΛ p hp).1)
  · exact absurd (Heap.lt_size (hΛ p hp).1) (Nat.not_lt.mpr (Nat.le_of_lt (x.above n p.1 (mem_of_lookup e))))

theorem cellsFrom_has {x : Str} : ∀ (names : List (Str × NameKind)) (n : Nat) (acc : List (Str × Addr)), names.lookup x = some .cell ∨ (∃ c, acc.lookup x = some c) → ∃ c, (cellsFrom n names acc).lookup x = some c
  | [], _, _, h => h.elim (fun e => by cases e) id
  | (y, k) :: r, n, acc, h => by
    unfold cellsFrom
    by_cases hk : (k == .cell) = true
    · rw [if_pos hk]
      refine cellsFrom_has r (n + 1) ((y, n) :: acc) ?_
      by_cases hy : (x == y) = true
      · exact .inr ⟨n, by rw [List.lookup_cons, hy]⟩
      · rcases h with h | ⟨c, h⟩
        · rw [List.lookup_cons] at h; simp only [hy] at h; exact .inl h
        · exact .inr ⟨c, by rw [List.lookup_cons]; simp only [hy]; exact h⟩
    · rw [if_neg hk]
      refine cellsFrom_has r n acc ?_
      rcases h with h | h
      · by_cases hy : (x == y) = true
        · rw [List.lookup_cons, hy] at h
          exact absurd (by rw [Option.some.inj h]; rfl) hk
        · rw [List.lookup_cons] at h; simp only [hy] at h; exact .inl h
      · exact .inr h

/-- a def of the text called: its body in a frame of its own -/
theorem call_def {prog : Program} {w : World} {A : Around} {s : Shared} {R : Result → Shared → Prop} {a : Addr} {o : Obj} {fd : FuncData} {body : List Stmt} {vals : List Value} {binds : List (Str × Value)} {ρ : Rho} {h₀ : Heap} {Λ : List (Addr × Obj)}
    (hroom : A.depth < recursionLimit) (ho : s.heap.get? a = some o) (hdata : o.data = .func fd) (hlim : s.heap.NoLimit) (hcd : s.heap.CodeRec fd.code fd.qualname)
    (hbody : fd.body = .stmts body) (hbind : bindArgs fd ⟨vals, []⟩ = pure binds) (hclo : fd.closure = [])
    (hb1 : (binds.all fun y => fd.scope.names.lookup y.1 == some .local || fd.scope.names.lookup y.1 == some .cell) = true) (hb2 : (binds.map (·.1)).Nodup) (hnd : (fd.scope.names.map (·.1)).Nodup) (hρ : rho0 fd.scope.names binds = ρ)
    (hb : Sub h₀ s.heap) (hΛ : ∀ p ∈ Λ, s.heap.get? p.1 = some p.2 ∧ h₀.get? p.1 = none) (hΛn : (Λ.map (·.1)).Nodup)
    (h : ∀ s₁, CS true s h₀ (callEnvC fd s.heap.objs.size a) ρ Λ s₁ →
      wpAny (model prog w) (A.deeper (callEnvC fd s.heap.objs.size a)) (execs body (callEnvC fd s.heap.objs.size a)) (fun f s' => R (.ok (.ret (match f with | .ret v => v | _ => .none))) s')
        (fun e s' => wpAny (model prog w) (A.deeper (callEnvC fd s.heap.objs.size a)) (leaving (callEnvC fd s.heap.objs.size a) e) (fun _ s'' => R (.error e) s'') (fun e' s'' => R (.error e') s'') s') s₁)
    (hco : fd.scope.isCoroutine = false) (hgen : fd.scope.isGenerator = false) (hk : fd.scope.kind = .function) :
    codeAny (model prog w) A (.call (.ref a) ⟨vals, []⟩) R s := by
  have hcs : ∀ n m, fd.scope.names.lookup n = some .cell → ∃ c, (cellsFrom m fd.scope.names []).lookup n = some c := fun n m e => cellsFrom_has _ _ _ (.inl e)
  refine codeAny_call_cells hroom ho hdata hlim hcd hbody hbind hclo (fun x hx => ?_) (fun s₁ x => ?_) hco hgen hk
  · have := List.all_eq_true.mp hb1 x hx
    rcases Bool.or_eq_true_iff.mp this with q | q
    · exact .inl (beq_iff_eq.mp q)
    · refine .inr ⟨beq_iff_eq.mp q, ?_⟩
      obtain ⟨c, e⟩ := hcs x.1 (s.heap.objs.size + 1) (beq_iff_eq.mp q)
      rw [e]; rfl
  · have := enterCS x hk hnd hb2 (fun n e => hcs n _ e) hb hΛ hΛn
    exact h s₁ (hρ ▸ this)
end Fl

namespace Fl
open PySem PyProof.Rows

namespace CS
variable {b : Bool} {s₀ s s' : Shared} {h₀ h₁ : Heap} {env : Env} {ρ ρ' : Rho} {Λ Λ' : List (Addr × Obj)}
/-- some objects are changed that are neither the frame's own nor of the part that stays -/
theorem but (S : CS true s₀ h₀ env ρ Λ s) {wr : List Addr} {h' : Heap} {tk : Nat} (hk : ∀ a o, a ∉ wr → s.heap.get? a = some o → h'.get? a = some o) (h1 : ∀ a ∈ wr, h₀.get? a = none) (h2 : ∀ a ∈ wr, ¬ own env Λ a) :
    CS true s₀ h₀ env ρ Λ { s with heap := h', toks := tk } := by
  have hL : env.locals ∉ wr := fun h => h2 _ h (.inl rfl)
  have hC : ∀ n c, env.cells.lookup n = some c → c ∉ wr := fun n c e h => h2 _ h (.inr (.inl ⟨n, e⟩))
  refine ⟨S.kind, ?_, fun a o e => hk a o (fun h => ?_) (S.base a o e), (fun q => nomatch q), ?_, fun x v c a1 a2 a3 => ?_, fun n c e => ?_, S.apart, S.kinds, S.locs, S.nd, fun p hp => ?_, S.lnd⟩
  · obtain ⟨h, t, rfl⟩ := S.same; exact ⟨h', tk, rfl⟩
  · rw [h1 a h] at e; cases e
  · obtain ⟨m, hn, hm⟩ := S.ns; exact ⟨m, hn.at' fun o e => hk _ o hL e, hm⟩
  · obtain ⟨o, e, r⟩ := S.cell x v c a1 a2 a3; exact ⟨o, hk _ o (hC x c a3) e, r⟩
  · obtain ⟨⟨v, o, e', r'⟩, r⟩ := S.cells n c e; exact ⟨⟨v, o, hk _ o (hC n c e) e', r'⟩, r⟩
  · obtain ⟨a, r⟩ := S.led p hp; exact ⟨hk _ _ (fun h => h2 _ h (.inr (.inr (List.mem_map_of_mem hp)))) a, r⟩
theorem own_adr (e : Λ'.map (·.1) = Λ.map (·.1)) {a : Addr} : own env Λ' a ↔ own env Λ a := by unfold own; rw [e]
end CS

section
variable {prog : Program} {w : World} {A : Around} {s s₀ : Shared} {h₀ : Heap} {env : Env} {ρ : Rho} {Λ : List (Addr × Obj)} {E : Value → Shared → Prop} {Q : Flow → Shared → Prop}

/-- a for loop over what an iterator hands out, by what holds of the names and of the changed objects between the turns -/
theorem loop_inv {body : List Stmt} {x : Str} {px : Pos} {I : Addr} {fp wr : List Addr} {n : Nat} {P : Nat → Value → Prop} {St : Nat → Heap → Prop}
    (J : Nat → Rho → List (Addr × Obj) → Prop) (W : Walks prog w A I fp wr n P St) (S : CS true s₀ h₀ env ρ Λ s) (hst : St 0 s.heap) (hfp : ∀ a ∈ fp, ¬ CS.own env Λ a) (hwr : ∀ a ∈ wr, h₀.get? a = none) (hJ : J 0 ρ Λ)
    (hadr : ∀ i ρ' Λ', J i ρ' Λ' → Λ'.map (·.1) = Λ.map (·.1))
    (turn : ∀ i v ρ₁ Λ₁, i < n → P i v → J i ρ₁ Λ₁ → ∃ ρ₂, Put x v ρ₁ ρ₂ ∧ ∀ h₁ s₁, Sub h₀ h₁ → CS true s₀ h₁ env ρ₂ Λ₁ s₁ →
      wpAny (model prog w) A (execs body env) (fun f s₂ => match f with
        | .next | .cont => ∃ h' ρ' Λ', Sub h₁ h' ∧ CS true s₀ h' env ρ' Λ' s₂ ∧ J (i + 1) ρ' Λ'
        | .brk => Q .next s₂
        | .ret v => Q (.ret v) s₂) (notedBy (model prog w) A env fun e s' => cameBackBy (model prog w) A env E e s') s₁)
    (done : ∀ ρ' Λ' s', J n ρ' Λ' → CS true s₀ h₀ env ρ' Λ' s' → Q .next s') :
    codeAny (model prog w) A (.forLoop (.Name x px) (.ref I) body [] env) (fun r s' => match r with | .ok f => Q f s' | .error e => cameBackBy (model prog w) A env E e s') s := by
  refine codeAny_forLoop_any (fun k s' => ∃ i ρ' Λ', k = n - i ∧ i ≤ n ∧ J i ρ' Λ' ∧ CS true s₀ h₀ env ρ' Λ' s' ∧ St i s'.heap) ?_ n ⟨0, ρ, Λ, rfl, Nat.zero_le _, hJ, S, hst⟩
  rintro k s' ⟨i, ρ', Λ', rfl, hi, hJ', S', st'⟩
  have off : ∀ a ∈ fp, ¬ CS.own env Λ' a := fun a ha h => hfp a ha ((CS.own_adr (hadr _ _ _ hJ')).mp h)
  have off2 : ∀ a ∈ wr, ¬ CS.own env Λ' a := fun a ha => off a (W.sub a ha)
  by_cases hlt : i < n
  · refine W.item i s' _ _ hlt st' fun v h' tk hP st₁ hk => ?_
    have S₁ : CS true s₀ h₀ env ρ' Λ' { s' with heap := h', toks := tk } := S'.but hk hwr off2
    obtain ⟨h₁, k1, S₂, k3⟩ := S₁.wide
    obtain ⟨ρ₂, hput, hbody⟩ := turn i v ρ' Λ' hlt hP hJ'
    refine wpAny_of_eq (rfl : letOwnedTupleGo (.Name x px) (.ref I) v = pure ()) (wpAny_assign_Name (S₂.put hput fun s₁ S₃ => ?_))
    refine wpAny_mono (hbody h₁ s₁ k1 S₃) (fun f s₂ hf => ?_) fun _ _ e => e
    have nx : (∃ h' ρ' Λ', Sub h₁ h' ∧ CS true s₀ h' env ρ' Λ' s₂ ∧ J (i + 1) ρ' Λ') → ∃ m, m < n - i ∧ ∃ i ρ' Λ', m = n - i ∧ i ≤ n ∧ J i ρ' Λ' ∧ CS true s₀ h₀ env ρ' Λ' s₂ ∧ St i s₂.heap := by
      rintro ⟨h2, ρ3, Λ3, k4, S4, hJ4⟩
      refine ⟨n - (i + 1), by (first | lia | omega), i + 1, ρ3, Λ3, rfl, hlt, hJ4, S4.drop (k1.trans k4), W.frame _ _ _ st₁ fun a ha o e => ?_⟩
      exact S4.base _ _ (k4 _ _ (k3 a o e (off a ha)))
    cases f with
    | next => exact nx hf
    | cont => exact nx hf
    | brk => exact hf
    | ret v => exact hf
  · have hin : i = n := by (first | lia | omega)
    subst hin
    refine W.done s' _ _ st' fun h' tk hk => ?_
    exact wpAny_execs_nil (done _ _ _ hJ' (S'.but hk hwr off2))

/-- a while loop: between the turns, and what every turn lowers -/
theorem while_inv {test : Expr} {body : List Stmt} (J : Nat → Heap → Rho → List (Addr × Obj) → Prop) (S : CS true s₀ h₀ env ρ Λ s) {n : Nat} (hJ : J n h₀ ρ Λ)
    (turn : ∀ k h₁ ρ₁ Λ₁ s₁, J k h₁ ρ₁ Λ₁ → Sub h₀ h₁ → CS true s₀ h₁ env ρ₁ Λ₁ s₁ →
      wpAny (model prog w) A (isTrue test env (eval test env)) (fun b s₂ =>
        if b then wpAny (model prog w) A (execs body env) (fun f s₃ => match f with
            | .next | .cont => ∃ m h' ρ' Λ', m < k ∧ Sub h₀ h' ∧ CS true s₀ h' env ρ' Λ' s₃ ∧ J m h' ρ' Λ'
            | .brk => Q .next s₃
            | .ret v => Q (.ret v) s₃) (notedBy (model prog w) A env fun e s' => cameBackBy (model prog w) A env E e s') s₂
        else Q .next s₂) (notedBy (model prog w) A env fun e s' => cameBackBy (model prog w) A env E e s') s₁) {pos : Pos} :
    wpAny (model prog w) A (exec (.While test body [] pos) env) Q E s := by
  refine wpAny_While (codeAny_whileLoop (fun k s' => ∃ h' ρ' Λ', Sub h₀ h' ∧ CS true s₀ h' env ρ' Λ' s' ∧ J k h' ρ' Λ') ?_ n ⟨h₀, ρ, Λ, Sub.refl _, S, hJ⟩)
  rintro k s' ⟨h₁, ρ₁, Λ₁, k1, S₁, hJ₁⟩
  refine wpAny_mono (turn k h₁ ρ₁ Λ₁ s' hJ₁ k1 S₁) (fun b s₂ hb => ?_) fun _ _ e => e
  cases b with
  | false => exact wpAny_execs_nil hb
  | true =>
    refine wpAny_mono hb (fun f s₃ hf => ?_) fun _ _ e => e
    cases f with
    | next => obtain ⟨m, h', ρ', Λ', a, b, c, d⟩ := hf; exact ⟨m, a, h', ρ', Λ', b, c, d⟩
    | cont => obtain ⟨m, h', ρ', Λ', a, b, c, d⟩ := hf; exact ⟨m, a, h', ρ', Λ', b, c, d⟩
    | brk => exact hf
    | ret v => exact hf
end
end Fl

namespace Fl
open PySem PyProof.Rows

/-- the cells that a comprehension's block takes over -/
def closGo (env : Env) : List (Str × NameKind) → List (Str × Addr) → List (Str × Addr)
  | [], acc => acc
  | (n, k) :: r, acc => if k == .free then closGo env r ((n, (env.cells.lookup n).getD 0) :: acc) else closGo env r acc
theorem closureFor_go {scope : Scope} {env : Env} (h : ∀ n, (n, NameKind.free) ∈ scope.names → ∃ c, env.cells.lookup n = some c) : closureFor scope env = pure (closGo env scope.names []) := by
  unfold closureFor
  have go : ∀ (names : List (Str × NameKind)) (acc : List (Str × Addr)), (∀ n, (n, NameKind.free) ∈ names → ∃ c, env.cells.lookup n = some c) →
      (forIn names acc fun (x : Str × NameKind) (r : List (Str × Addr)) => (if (x.2 == NameKind.free) = true then do let a ← cellOf env x.1; pure (ForInStep.yield ((x.1, a) :: r)) else pure (ForInStep.yield r) : Sem (ForInStep (List (Str × Addr)))))
        = pure (closGo env names acc) := by
    intro names
    induction names with
    | nil => intro acc _; rfl
    | cons p r ih =>
      obtain ⟨n, k⟩ := p
      intro acc hh
      rw [List.forIn_cons, closGo]
      by_cases hk : (k == NameKind.free) = true
      · have hk' : k = .free := by cases k <;> first | rfl | cases hk
        subst hk'
        obtain ⟨c, e⟩ := hh n (List.mem_cons_self ..)
        have hc : cellOf env n = pure c := by unfold cellOf; rw [e]
        simp only [hk, if_true, hc, pure_bind]
        rw [e]
        exact ih _ fun m hm => hh m (List.mem_cons_of_mem _ hm)
      · simp only [hk, if_false, pure_bind, Bool.false_eq_true]
        exact ih _ fun m hm => hh m (List.mem_cons_of_mem _ hm)
  have := go scope.names [] h
  simp only [bind_pure]
  exact this
theorem closGo_look {env : Env} {n : Str} {c : Addr} : ∀ (names : List (Str × NameKind)) (acc : List (Str × Addr)), (∀ n c, acc.lookup n = some c → env.cells.lookup n = some c) → (∀ n, (n, NameKind.free) ∈ names → ∃ c, env.cells.lookup n = some c) →
    (closGo env names acc).lookup n = some c → env.cells.lookup n = some c
  | [], _, h, _, e => h _ _ e
  | (m, k) :: r, acc, h, hf, e => by
    unfold closGo at e
    by_cases hk : (k == NameKind.free) = true
    · rw [if_pos hk] at e
      have hk' : k = .free := by cases k <;> first | rfl | cases hk
      subst hk'
      obtain ⟨c', e'⟩ := hf m (List.mem_cons_self ..)
      refine closGo_look r _ (fun n' c'' q => ?_) (fun n' hn => hf n' (List.mem_cons_of_mem _ hn)) e
      rw [List.lookup_cons] at q
      split at q
      · rename_i hb
        have := beq_iff_eq.mp hb
        subst this
        rw [e'] at q
        cases q
        exact e'
      · exact h _ _ q
    · rw [if_neg hk] at e
      exact closGo_look r _ h (fun n' hn => hf n' (List.mem_cons_of_mem _ hn)) e
theorem closGo_has {env : Env} {n : Str} : ∀ (names : List (Str × NameKind)) (acc : List (Str × Addr)), ((n, NameKind.free) ∈ names ∨ ∃ c, acc.lookup n = some c) → ∃ c, (closGo env names acc).lookup n = some c
  | [], _, h => h.elim (fun h => nomatch h) id
  | (m, k) :: r, acc, h => by
    unfold closGo
    by_cases hk : (k == NameKind.free) = true
    · rw [if_pos hk]
      refine closGo_has r _ ?_
      by_cases hm : (n == m) = true
      · exact .inr ⟨_, by rw [List.lookup_cons, hm]⟩
      · rcases h with h | ⟨c, h⟩
        · rcases List.mem_cons.mp h with q | q
          · cases q; simp at hm
          · exact .inl q
        · refine .inr ⟨c, ?_⟩
          rw [List.lookup_cons]; simp only [hm]; exact h
    · rw [if_neg hk]
      refine closGo_has r _ ?_
      rcases h with h | h
      · rcases List.mem_cons.mp h with q | q
        · cases q; exact absurd rfl hk
        · exact .inl q
      · exact .inr h

theorem lookup_relabel {env : Env} {y : Str} : ∀ {names : List (Str × NameKind)}, names.lookup y = some .free → env.scope.kind = .function → env.kindOf y = some .cell →
    (names.map fun (n, k) => if (k == NameKind.free && env.scope.kind == .function && env.kindOf n == some .cell) then (n, NameKind.cell) else (n, k)).lookup y = some .cell
  | [], h, _, _ => by cases h
  | (n, k) :: r, h, hk, hc => by
    rw [List.lookup_cons] at h
    rw [List.map_cons]
    by_cases hy : (y == n) = true
    · have := beq_iff_eq.mp hy
      subst this
      simp only [beq_self_eq_true] at h
      cases h
      simp [hk, hc]
    · simp only [hy] at h
      have ih := lookup_relabel h hk hc
      by_cases hq : (k == NameKind.free && env.scope.kind == .function && env.kindOf n == some .cell) = true
      · simp only [hq, if_true, List.lookup_cons, hy]; exact ih
      · simp only [hq, Bool.false_eq_true, if_false, List.lookup_cons, hy]; exact ih

section
variable {prog : Program} {w : World} {A : Around} {s s₀ s₂ s₃ : Shared} {h₀ : Heap} {env : Env} {ρ ρc : Rho} {Λ : List (Addr × Obj)} {E : Value → Shared → Prop}

/-- the block of a comprehension: its own name, and the names of the frame's that it takes over -/
theorem compCS {scope : Scope} {x : Str} {v : Value} {C : Addr} {m : Str → Option Value} {wr : List Addr} (S : CS true s₀ h₀ env ρ Λ s₂) (hC : s₂.heap.objs.size ≤ C) (hns : s₃.heap.Ns C m) (hm : m x = some v)
    (hk : ∀ a o, a ∉ wr → s₂.heap.get? a = some o → s₃.heap.get? a = some o) (h1 : ∀ a ∈ wr, h₀.get? a = none) (h2 : ∀ a ∈ wr, ¬ CS.own env Λ a)
    (hkind : scope.kind = .function) (hx : scope.names.lookup x = some .local) (hfree : ∀ n, (n, NameKind.free) ∈ scope.names → ∃ c, env.cells.lookup n = some c)
    (hc1 : ∀ y, y ∈ ρc.map (·.1) → scope.names.lookup y = some .free ∧ env.kindOf y = some .cell) (hc2 : ∀ y u, Look y u ρc → Look y u ρ) (hnd : ((x :: ρc.map (·.1))).Nodup) :
    CS false s₃ h₀ (compEnvC scope (closGo env scope.names []) C env) ((x, some v) :: ρc) Λ s₃ := by
  have hC' : ∀ n c, env.cells.lookup n = some c → c ∉ wr := fun n c e h => h2 _ h (.inr (.inl ⟨n, e⟩))
  have lk : ∀ {n c}, (closGo env scope.names []).lookup n = some c → env.cells.lookup n = some c := fun e => closGo_look _ _ (fun _ _ q => by cases q) hfree e
  have hcell : ∀ y u c, Look y u ρ → env.kindOf y = some .cell → env.cells.lookup y = some c → s₃.heap.IsCell c (some u) := fun y u c a b e => by
    obtain ⟨o, q, r⟩ := S.cell y u c a b e; exact ⟨o, hk _ o (hC' y c e) q, r⟩
  have kc : ∀ y, y ∈ ρc.map (·.1) → (compEnvC scope (closGo env scope.names []) C env).kindOf y = some .cell := fun y hy => lookup_relabel (hc1 y hy).1 S.kind (hc1 y hy).2
  have kx : (compEnvC scope (closGo env scope.names []) C env).kindOf x = some .local := lookup_relabel_local hx
  rw [List.nodup_cons] at hnd
  refine ⟨hkind, ⟨s₃.heap, s₃.toks, rfl⟩, fun a o e => hk a o (fun h => by rw [h1 a h] at e; cases e) (S.base a o e), fun _ => Sub.refl _, ⟨m, hns, fun y u hy hl => ?_⟩, fun y u c hy hl hc => ?_, fun n c e => ?_, fun n n' c e e' => S.apart _ _ _ (lk e) (lk e'),
    fun y hy => ?_, (fun q => nomatch q), ?_, fun p hp => ?_, S.lnd⟩
  · cases hy with
    | head => exact hm
    | tail hy => rw [kc y hy.mem] at hl; cases hl
  · cases hy with
    | head => rw [kx] at hl; cases hl
    | tail hy => exact hcell y u c (hc2 y u hy) (hc1 y hy.mem).2 (lk hc)
  · obtain ⟨⟨u, o, q, r⟩, _, _⟩ := S.cells n c (lk e)
    refine ⟨⟨u, o, hk _ o (hC' n c (lk e)) q, r⟩, Nat.ne_of_lt (Nat.lt_of_lt_of_le (Heap.lt_size q) hC), (fun q => nomatch q)⟩
  · rcases List.mem_cons.mp hy with rfl | hy
    · exact .inl kx
    · refine .inr ⟨kc y hy, closGo_has _ _ (.inl (mem_of_lookup (hc1 y hy).1))⟩
  · rw [List.map_cons, List.nodup_cons]; exact hnd
  · obtain ⟨a, b, c, _⟩ := S.led p hp
    exact ⟨hk _ _ (fun h => h2 _ h (.inr (.inr (List.mem_map_of_mem hp)))) a, Nat.ne_of_lt (Nat.lt_of_lt_of_le (Heap.lt_size a) hC), fun n e => c n (lk e), (fun q => nomatch q)⟩

abbrev lst (ys : Array Value) (k : Nat) : Obj := { cls := .type "list", data := .seq ys k }
theorem CS.new (S : CS true s₀ h₀ env ρ Λ s) {s' : Shared} {wr : List Addr} {h' : Heap} {tk : Nat} {D : Addr} {o : Obj} (e : s' = { s with heap := h', toks := tk }) (hk : ∀ a o, a ∉ wr → s.heap.get? a = some o → h'.get? a = some o) (h1 : ∀ a ∈ wr, h₀.get? a = none) (h2 : ∀ a ∈ wr, ¬ CS.own env Λ a)
    (hD : s.heap.get? D = none) (ho : h'.get? D = some o) : CS true s₀ h₀ env ρ ((D, o) :: Λ) s' := by
  subst e
  have S' : CS true s₀ h₀ env ρ Λ { s with heap := h', toks := tk } := S.but hk h1 h2
  have hno : ¬ CS.own env Λ D := fun h => by obtain ⟨o', q⟩ := S.own_at h; rw [hD] at q; cases q
  refine ⟨S'.kind, S'.same, S'.base, S'.all, S'.ns, S'.cell, S'.cells, S'.apart, S'.kinds, S'.locs, S'.nd, fun p hp => ?_, ?_⟩
  · rcases List.mem_cons.mp hp with rfl | hp
    · exact ⟨ho, fun q => hno (.inl q), fun n q => hno (.inr (.inl ⟨n, q⟩)), fun _ => S.base.none hD⟩
    · exact S'.led p hp
  · rw [List.map_cons, List.nodup_cons]
    exact ⟨fun h => hno (.inr (.inr h)), S.lnd⟩
/-- an object of the changed ones is changed no more: it is of the part that stays from now on -/
theorem CS.freeze {a : Addr} {o : Obj} (S : CS true s₀ h₀ env ρ ((a, o) :: Λ) s) : ∃ h₁, Sub h₀ h₁ ∧ h₁.get? a = some o ∧ CS true s₀ h₁ env ρ Λ s := by
  obtain ⟨e, h1, h2, h3⟩ := S.led (a, o) (List.mem_cons_self ..)
  have nd := S.lnd
  rw [List.map_cons, List.nodup_cons] at nd
  have S' : CS true s₀ h₀ env ρ Λ s := ⟨S.kind, S.same, S.base, S.all, S.ns, S.cell, S.cells, S.apart, S.kinds, S.locs, S.nd, fun p hp => S.led p (List.mem_cons_of_mem _ hp), nd.2⟩
  obtain ⟨h₁, k1, k2, k3⟩ := S'.wide
  refine ⟨h₁, k1, k3 a o e ?_, k2⟩
  rintro (q | ⟨n, q⟩ | q)
  · exact h1 q
  · exact h2 n q
  · exact nd.1 q

/-- a list comprehension of one clause over what an iterator hands out -/
def CompK (prog : Program) (w : World) (A : Around) (s₀ : Shared) (h₀ : Heap) (env : Env) (ρ ρc : Rho) (Λ : List (Addr × Obj)) (scope : Scope) (x : Str) (ifs : List Expr) (elt : Expr) (p : Value → Bool) (F : Value → Value → Prop) (Fin : Addr → Obj → Prop) (it : Value) (s₂ : Shared) : Prop :=
  ∃ I fp wr n P St, it = .ref I ∧ Walks prog w A I fp wr n P St ∧ n ≤ sizeLine ∧ St 0 s₂.heap ∧ (∀ b ∈ fp, b < s₂.heap.objs.size) ∧ CS true s₀ h₀ env ρ Λ s₂ ∧ (∀ a ∈ wr, h₀.get? a = none) ∧ (∀ a ∈ wr, ¬ CS.own env Λ a) ∧
  (∀ C i v s₃ E', P i v → CS false s₃ h₀ (compEnvC scope (closGo env scope.names []) C env) ((x, some v) :: ρc) Λ s₃ →
    wpAny (model prog w) A (forIn ifs true fun c r => if r = true then do let ok ← isTrue c (compEnvC scope (closGo env scope.names []) C env) (eval c (compEnvC scope (closGo env scope.names []) C env)); pure (ForInStep.yield ok) else pure (ForInStep.yield r))
      (fun ok s₄ => ok = p v ∧ Keeps s₃ s₄) E' s₃) ∧
  (∀ C i v s₃ E', P i v → p v = true → CS false s₃ h₀ (compEnvC scope (closGo env scope.names []) C env) ((x, some v) :: ρc) Λ s₃ →
    wpAny (model prog w) A (eval elt (compEnvC scope (closGo env scope.names []) C env)) (fun y s₄ => F v y ∧ Keeps s₃ s₄) E' s₃) ∧
  (∀ D k ys (vs : List Value), vs.length = n → (∀ j v, vs[j]? = some v → P j v) → Paired F (vs.filter p) ys.toList → s₂.heap.get? D = none → Fin D (lst ys k))

theorem QuietOnC.ofCS {scope : Scope} {x : Str} {ifs : List Expr} {elt : Expr} {wr : List Addr} {P : Nat → Value → Prop} {p : Value → Bool} {F : Value → Value → Prop} (S : CS true s₀ h₀ env ρ Λ s₂) (h1 : ∀ a ∈ wr, h₀.get? a = none) (h2 : ∀ a ∈ wr, ¬ CS.own env Λ a)
    (hkind : scope.kind = .function) (hx : scope.names.lookup x = some .local) (hfree : ∀ n, (n, NameKind.free) ∈ scope.names → ∃ c, env.cells.lookup n = some c)
    (hc1 : ∀ y, y ∈ ρc.map (·.1) → scope.names.lookup y = some .free ∧ env.kindOf y = some .cell) (hc2 : ∀ y u, Look y u ρc → Look y u ρ) (hnd : ((x :: ρc.map (·.1))).Nodup)
    (ht : ∀ C i v s₃ E', P i v → CS false s₃ h₀ (compEnvC scope (closGo env scope.names []) C env) ((x, some v) :: ρc) Λ s₃ →
      wpAny (model prog w) A (forIn ifs true fun c r => if r = true then do let ok ← isTrue c (compEnvC scope (closGo env scope.names []) C env) (eval c (compEnvC scope (closGo env scope.names []) C env)); pure (ForInStep.yield ok) else pure (ForInStep.yield r))
        (fun ok s₄ => ok = p v ∧ Keeps s₃ s₄) E' s₃)
    (he : ∀ C i v s₃ E', P i v → p v = true → CS false s₃ h₀ (compEnvC scope (closGo env scope.names []) C env) ((x, some v) :: ρc) Λ s₃ →
      wpAny (model prog w) A (eval elt (compEnvC scope (closGo env scope.names []) C env)) (fun y s₄ => F v y ∧ Keeps s₃ s₄) E' s₃) :
    QuietOnC prog w A env scope (closGo env scope.names []) x ifs elt wr P p F s₂ where
  tests := fun C i v s₃ _ E' hC hP hns hm hk _ => ht C i v s₃ E' hP (compCS S hC hns hm hk h1 h2 hkind hx hfree hc1 hc2 hnd)
  elt := fun C i v s₃ _ E' hC hP hp hns hm hk _ => he C i v s₃ E' hP hp (compCS S hC hns hm hk h1 h2 hkind hx hfree hc1 hc2 hnd)

theorem ListComp_CS {elt iter : Expr} {x : Str} {px : Pos} {ifs : List Expr} {scope : Scope} {pos : Pos} {Q : Value → Shared → Prop} (ρc : Rho) (p : Value → Bool) (F : Value → Value → Prop)
    (hfree : ∀ n, (n, NameKind.free) ∈ scope.names → ∃ c, env.cells.lookup n = some c) (hcell : ∀ y ∈ scope.names, y.2 ≠ .cell) (hkind : scope.kind = .function)
    (hnames : ∀ y ∈ scope.names, y.2 = .local → scope.names.lookup y.1 = some .local) (hx : scope.names.lookup x = some .local)
    (hc1 : ∀ y, y ∈ ρc.map (·.1) → scope.names.lookup y = some .free ∧ env.kindOf y = some .cell) (hc2 : ∀ y u, Look y u ρc → Look y u ρ) (hnd : ((x :: ρc.map (·.1))).Nodup)
    (h : wpAny (model prog w) A (eval iter env) (fun xv s₁ => wpAny (model prog w) A (pyIter xv) (CompK prog w A s₀ h₀ env ρ ρc Λ scope x ifs elt p F (fun D o => ∀ s', CS true s₀ h₀ env ρ ((D, o) :: Λ) s' → Q (.ref D) s')) E s₁) E s)
    (hs : ∀ x, foldedSetIterable iter env x = pure x) :
    wpAny (model prog w) A (eval (.ListComp elt [⟨.Name x px, iter, ifs, 0⟩] scope pos) env) Q E s := by
  refine wpAny_ListComp_free p F (closureFor_go hfree) hcell hkind hnames hx (wpAny_mono h (fun xv s₁ h₁ => wpAny_mono h₁ (fun it s₂ h₂ => ?_) fun _ _ e => e) fun _ _ e => e) hs
  obtain ⟨I, fp, wr, n, P, St, e, W, hsz, hst, hfp, S, h1, h2, ht, he, hQ⟩ := h₂
  refine ⟨I, fp, wr, n, P, St, e, W, hsz, hst, hfp, QuietOnC.ofCS S h1 h2 hkind hx hfree hc1 hc2 hnd ht he, ?_⟩
  intro D h' tk ys vs hD _ hpl hlen hP hF hk
  obtain ⟨k, hpl⟩ := hpl
  exact hQ D k ys vs hlen hP hF hD _ (S.new rfl hk h1 h2 hD hpl)

/-- the same, stored at once (the comprehension's own names are let go behind the store) -/
theorem Assign_ListComp_CS {elt iter : Expr} {x y : Str} {px py : Pos} {ifs : List Expr} {scope : Scope} {pos spos : Pos} {Q : Flow → Shared → Prop} (ρc : Rho) (p : Value → Bool) (F : Value → Value → Prop)
    (hsw : swapsWith (.ListComp elt [⟨.Name x px, iter, ifs, 0⟩] scope pos) (some (.Name y py)) spos.line env = pure true)
    (hfree : ∀ n, (n, NameKind.free) ∈ scope.names → ∃ c, env.cells.lookup n = some c) (hcell : ∀ y ∈ scope.names, y.2 ≠ .cell) (hkind : scope.kind = .function)
    (hnames : ∀ y ∈ scope.names, y.2 = .local → scope.names.lookup y.1 = some .local) (hx : scope.names.lookup x = some .local) (hy : env.kindOf y = some .local) (hek : env.scope.kind = .function)
    (hc1 : ∀ y, y ∈ ρc.map (·.1) → scope.names.lookup y = some .free ∧ env.kindOf y = some .cell) (hc2 : ∀ y u, Look y u ρc → Look y u ρ) (hnd : ((x :: ρc.map (·.1))).Nodup)
    (h : wpAny (model prog w) A (eval iter env) (fun xv s₁ => wpAny (model prog w) A (pyIter xv) (CompK prog w A s₀ h₀ env ρ ρc Λ scope x ifs elt p F
      (fun D o => ∃ ρ', Put y (.ref D) ρ ρ' ∧ ∀ s', CS true s₀ h₀ env ρ' ((D, o) :: Λ) s' → Q .next s')) E s₁) E s)
    (hs : ∀ x, foldedSetIterable iter env x = pure x) :
    wpAny (model prog w) A (exec (.Assign [.Name y py] (.ListComp elt [⟨.Name x px, iter, ifs, 0⟩] scope pos) spos) env) Q E s := by
  refine wpAny_Assign_ListComp_free p F hsw (closureFor_go hfree) hcell hkind hnames hx hy (by rw [hek]; rfl) (wpAny_mono h (fun xv s₁ h₁ => wpAny_mono h₁ (fun it s₂ h₂ => ?_) fun _ _ e => e) fun _ _ e => e) hs
  obtain ⟨I, fp, wr, n, P, St, e, W, hsz, hst, hfp, S, h1, h2, ht, he, hQ⟩ := h₂
  obtain ⟨m, hm, hm'⟩ := S.ns
  refine ⟨I, fp, wr, n, P, St, m, e, W, hsz, hst, hfp, fun q => h2 _ q (.inl rfl), hm, QuietOnC.ofCS S h1 h2 hkind hx hfree hc1 hc2 hnd ht he, ?_⟩
  intro D h' tk ys vs hD _ hpl hlen hP hF hns hk
  obtain ⟨k, hpl⟩ := hpl
  have hDL : D ≠ env.locals := fun q => by obtain ⟨o, _, _, e, _⟩ := hm; rw [q] at hD; rw [hD] at e; cases e
  -- the heap with the frame's names as they were: only for the facts
  have hno : ¬ CS.own env Λ D := fun h => by obtain ⟨o', q⟩ := S.own_at h; rw [hD] at q; cases q
  have hC' : ∀ n c, env.cells.lookup n = some c → c ∉ wr := fun n c e h => h2 _ h (.inr (.inl ⟨n, e⟩))
  have mk : ∀ ρ', Put y (.ref D) ρ ρ' → CS true s₀ h₀ env ρ' ((D, lst ys k) :: Λ) { s₂ with heap := h', toks := tk } := fun ρ' hput => by
    refine ⟨S.kind, ?_, fun a o e => hk a o (fun q => ?_) (fun q => ?_) (S.base a o e), (fun q => nomatch q), ⟨_, hns, fun z u hz hl => ?_⟩, fun z u c hz hl hc => ?_, fun n c e => ?_, S.apart, fun z hz => S.kinds z (hput.names ▸ hz), S.locs, hput.names ▸ S.nd, fun q hq => ?_, ?_⟩
    · obtain ⟨h, t, rfl⟩ := S.same; exact ⟨h', tk, rfl⟩
    · rw [q, S.locs rfl] at e; cases e
    · rw [h1 a q] at e; cases e
    · rcases hput.look S.nd hz with ⟨rfl, rfl⟩ | ⟨q1, q2⟩
      · exact if_pos rfl
      · exact (if_neg q1).trans (hm' z u q2 hl)
    · rcases hput.look S.nd hz with ⟨rfl, rfl⟩ | ⟨q1, q2⟩
      · rw [hy] at hl; cases hl
      · obtain ⟨o, e, r⟩ := S.cell z u c q2 hl hc
        exact ⟨o, hk _ o (S.cells z c hc).2.1 (hC' z c hc) e, r⟩
    · obtain ⟨⟨u, o, e', r'⟩, r⟩ := S.cells n c e
      exact ⟨⟨u, o, hk _ o r.1 (hC' n c e) e', r'⟩, r⟩
    · rcases List.mem_cons.mp hq with rfl | hq
      · exact ⟨hpl, hDL, fun n q => hno (.inr (.inl ⟨n, q⟩)), fun _ => S.base.none hD⟩
      · obtain ⟨a, b, r⟩ := S.led q hq
        exact ⟨hk _ _ b (fun h => h2 _ h (.inr (.inr (List.mem_map_of_mem hq)))) a, b, r⟩
    · rw [List.map_cons, List.nodup_cons]
      exact ⟨fun h => hno (.inr (.inr h)), S.lnd⟩
  obtain ⟨ρ', hput, hq⟩ := hQ D k ys vs hlen hP hF hD
  exact hq _ (mk ρ' hput)
end
end Fl

namespace Fl
open PySem PySem.W PySem.Calls PyProof.Rows

/-- what of the text's own objects, of its names and of the built-in names stands -/
structure Gr (K : Frag) (h : Heap) : Prop where
  X : K.In h
  g : ∃ mg, h.Ns mainGlobals mg
  b : ∃ mb, h.Ns builtinsNs mb ∧ ∀ x : Str, x ≠ "__name__" → mb x = bootBuiltins x
  lim : h.NoLimit
  tr : ∃ p loose mg mb, TopRead p loose mg mb h
theorem Gr.mono {K : Frag} {h h' : Heap} (G : Gr K h) (k : Sub h h') : Gr K h' :=
  ⟨G.X.keeps k, let ⟨m, a⟩ := G.g; ⟨m, a.keeps k⟩, let ⟨m, a, b⟩ := G.b; ⟨m, a.keeps k, b⟩, G.lim.keeps k, let ⟨p, l, m, n, a⟩ := G.tr; ⟨p, l, m, n, a.keeps k⟩⟩
theorem Gr.of {K : Frag} {h : Heap} {p : Program} {loose : List Str} {mean : ExcName → Option Value} {mg mb : Str → Option Value} (X : K.In h) (T : Top p loose mean mg mb h) : Gr K h :=
  ⟨X, ⟨_, T.g⟩, ⟨_, T.b, T.builtins⟩, T.nolimit, ⟨_, _, _, _, topRead_of T⟩⟩

/-- room for n more frames; nothing is being handled -/
structure Room (A : Around) (n : Nat) : Prop where
  depth : A.depth + n < recursionLimit
  units : A.units + 8 * n + 200 < cLine
  handled : A.handled = none
theorem Room.in_ {A : Around} {n k : Nat} {env : Env} (r : Room A n) (h : k + 1 ≤ n) : Room (A.deeper env) k :=
  ⟨by have := r.depth; show A.depth + 1 + k < _; (first | lia | omega), by have := r.units; show A.units + 3 + 8 * k + 200 < _; (first | lia | omega), r.handled⟩
section
variable {prog : Program} {w : World} {A : Around} {E : Value → Shared → Prop} {s s₀ : Shared} {h₀ : Heap} {env : Env} {ρ ρ' : Rho} {Λ : List (Addr × Obj)} {b : Bool} {K : Frag}

-- names
theorem n_var {x : Str} {pos : Pos} {v : Value} {Q : Value → Shared → Prop} (S : CS b s₀ h₀ env ρ Λ s) (hx : Look x v ρ) (hd : (x == ("__debug__" : Str)) = false) (h : Q v s) : wpAny (model prog w) A (eval (.Name x pos) env) Q E s :=
  wpAny_Name (S.look hx h) hd
theorem n_glob {x : Str} {pos : Pos} {v : Value} {Q : Value → Shared → Prop} (S : CS b s₀ h₀ env ρ Λ s) (G : Gr K h₀) (e : nsIn K mainGlobals x = some (some v)) (hx : env.kindOf x = some .globalImplicit) (hg : env.globals = mainGlobals) (hd : (x == ("__debug__" : Str)) = false) (h : Q v s) :
    wpAny (model prog w) A (eval (.Name x pos) env) Q E s := by
  refine Calls.Name_function_global S.kind hx ?_ hd
  unfold loadGlobal
  refine wpAny_bind ?_
  rw [hg]
  refine looks_nsIn G.X e _ _ _ _ S.base ?_
  exact wpAny_pure h
theorem n_built {x : Str} {pos : Pos} {v : Value} {Q : Value → Shared → Prop} (S : CS b s₀ h₀ env ρ Λ s) (G : Gr K h₀) (e : nsIn K mainGlobals x = some none) (hv : bootBuiltins x = some v) (hn : x ≠ "__name__") (hx : env.kindOf x = some .globalImplicit) (hg : env.globals = mainGlobals)
    (hb : env.builtins = builtinsNs) (hd : (x == ("__debug__" : Str)) = false) (h : Q v s) : wpAny (model prog w) A (eval (.Name x pos) env) Q E s := by
  obtain ⟨mg, hm⟩ := G.g
  obtain ⟨mb, hb1, hb2⟩ := G.b
  exact Calls.Name_function_global S.kind hx (Calls.loadGlobal_builtin (by rw [hg]; exact hm.keeps S.base) (mg_none_of G.X hm e) (by rw [hb]; exact hb1.keeps S.base) ((hb2 x hn).trans hv) h) hd

-- constants
theorem c_int {i : Int} {k : Nat} {pos : Pos} {Q : Value → Shared → Prop} (S : CS b s₀ h₀ env ρ Λ s) (h : ∀ t s', CS b s₀ h₀ env ρ Λ s' → Q (.int i t) s') : wpAny (model prog w) A (eval (.Constant (.int i) k pos) env) Q E s := wpAny_Constant_int (h _ _ (S.tok _))
theorem c_str {x : Str} {k : Nat} {pos : Pos} {Q : Value → Shared → Prop} (S : CS b s₀ h₀ env ρ Λ s) (h : ∀ t s', CS b s₀ h₀ env ρ Λ s' → Q (.str x t) s') : wpAny (model prog w) A (eval (.Constant (.str x) k pos) env) Q E s := wpAny_Constant_str (h _ _ (S.tok _))

-- ints
theorem o_add {x y : Int} {t u : Tok} {Q : Value → Shared → Prop} (S : CS b s₀ h₀ env ρ Λ s) (h : ∀ t s', CS b s₀ h₀ env ρ Λ s' → Q (.int (x + y) t) s') : wpAny (model prog w) A (binaryOp .Add (.int x t) (.int y u)) Q E s := PyProof.Rows.add_int (h _ _ (S.tok _))
theorem o_sub {x y : Int} {t u : Tok} {Q : Value → Shared → Prop} (S : CS b s₀ h₀ env ρ Λ s) (h : ∀ t s', CS b s₀ h₀ env ρ Λ s' → Q (.int (x - y) t) s') : wpAny (model prog w) A (binaryOp .Sub (.int x t) (.int y u)) Q E s := PySem.P.sub_int (h _ _ (S.tok _))
theorem o_mul {x y : Int} {t u : Tok} {Q : Value → Shared → Prop} (S : CS b s₀ h₀ env ρ Λ s) (hm : IntMulOk x y) (h : ∀ t s', CS b s₀ h₀ env ρ Λ s' → Q (.int (x * y) t) s') : wpAny (model prog w) A (binaryOp .Mult (.int x t) (.int y u)) Q E s := PyProof.Rows.mul_int (h _ _ (S.tok _)) hm
theorem o_div {x y : Int} {t u : Tok} {Q : Value → Shared → Prop} (S : CS b s₀ h₀ env ρ Λ s) (hy : 0 < y) (hy2 : y < 1073741824) (h : ∀ t s', CS b s₀ h₀ env ρ Λ s' → Q (.int (x / y) t) s') : wpAny (model prog w) A (binaryOp .FloorDiv (.int x t) (.int y u)) Q E s :=
  PyProof.Rows.floordiv_int (by (first | lia | omega)) (by rw [Int.fdiv_eq_ediv_of_nonneg _ (by (first | lia | omega))]; exact h _ _ (S.tok _)) (.inl (PyProof.noPylong_small (by (first | lia | omega))))
theorem o_mod {x y : Int} {t u : Tok} {Q : Value → Shared → Prop} (S : CS b s₀ h₀ env ρ Λ s) (hy : 0 < y) (h : ∀ t s', CS b s₀ h₀ env ρ Λ s' → Q (.int (x % y) t) s') : wpAny (model prog w) A (binaryOp .Mod (.int x t) (.int y u)) Q E s :=
  PyProof.Rows.mod_int (by (first | lia | omega)) (by rw [Int.fmod_eq_emod_of_nonneg _ (by (first | lia | omega))]; exact h _ _ (S.tok _))
theorem o_neg {x : Int} {t : Tok} {Q : Value → Shared → Prop} (S : CS b s₀ h₀ env ρ Λ s) (h : ∀ t s', CS b s₀ h₀ env ρ Λ s' → Q (.int (-x) t) s') : wpAny (model prog w) A (unaryOp .USub (.int x t)) Q E s := PySem.P.neg_int (h _ _ (S.tok _))

-- branches
theorem i_dec {c : Prop} [Decidable c] {P Q : Prop} (ht : c → P) (hf : ¬ c → Q) : if decide c = true then P else Q := by
  by_cases h : c
  · rw [if_pos (decide_eq_true h)]; exact ht h
  · rw [if_neg (by rw [decide_eq_false h]; exact Bool.false_ne_true)]; exact hf h
theorem i_eq {α : Type} [BEq α] [LawfulBEq α] {x y : α} {P Q : Prop} (ht : x = y → P) (hf : x ≠ y → Q) : if (x == y) = true then P else Q := by
  by_cases h : (x == y) = true
  · rw [if_pos h]; exact ht (beq_iff_eq.mp h)
  · rw [if_neg h]; exact hf fun q => h (beq_iff_eq.mpr q)
theorem i_ne {α : Type} [BEq α] [LawfulBEq α] {x y : α} {P Q : Prop} (ht : x ≠ y → P) (hf : x = y → Q) : if (x != y) = true then P else Q := by
  by_cases h : x = y
  · rw [if_neg (by rw [h]; simp)]; exact hf h
  · rw [if_pos (by simpa using h)]; exact ht h
theorem i_not {c : Bool} {P Q : Prop} (h : if c = true then Q else P) : if (!c) = true then P else Q := by cases c <;> exact h
theorem i_tt {P Q : Prop} (h : P) : if true = true then P else Q := h
theorem i_ff {P Q : Prop} (h : Q) : if false = true then P else Q := h
theorem i_bool {c : Bool} {P Q : Prop} (ht : c = true → P) (hf : c = false → Q) : if c = true then P else Q := by
  cases c
  · exact hf rfl
  · exact ht rfl

-- an object of a class of the text: what its fields hold
structure ObjAt (h : Heap) (C x : Addr) (flds : List (Str × Value)) : Prop where
  nd : (flds.map (·.1)).Nodup
  at_ : ∃ ox od, W.InstAt h x ox C (some od) ∧ ∀ n, lookIn n od = some (flds.lookup n)
theorem InstAt.mono {h h' : Heap} {x C : Addr} {ox : Obj} {od : Option Obj} (I : W.InstAt h x ox C od) (k : Sub h h') : W.InstAt h' x ox C od := by
  refine ⟨k _ _ I.at_, I.cls, I.no, ?_⟩
  have := I.dict
  revert this
  cases ox.dict <;> cases od <;> first | exact id | exact fun e => k _ _ e
theorem ObjAt.mono {h h' : Heap} {C x : Addr} {flds : List (Str × Value)} (O : ObjAt h C x flds) (k : Sub h h') : ObjAt h' C x flds := by
  obtain ⟨ox, od, I, l⟩ := O.at_
  exact ⟨O.nd, ox, od, InstAt.mono I k, l⟩

/-- a name that is no attribute of the class: it is read from the object alone -/
def fieldIn (K : Frag) (C : Addr) (name : Str) : Bool :=
  findIn K (.ref C) "__getattribute__" == some (some (.builtin "object.__getattribute__")) && findIn K (.ref C) name == some none && (clsIn K C).any (·.hasDict)
theorem a_field {C x : Addr} {flds : List (Str × Value)} {name : Str} {v : Value} {expr : Bool} {Q : Value → Shared → Prop} (S : CS b s₀ h₀ env ρ Λ s) (X : K.In s.heap) (O : ObjAt s.heap C x flds) (hc : fieldIn K C name = true) (hl : flds.lookup name = some v) (hh : handedIn v = true)
    (h : ∀ s', CS b s₀ h₀ env ρ Λ s' → Q v s') : wpAny (model prog w) A (getAttr (.ref x) name expr) Q E s := by
  obtain ⟨ox, od, I, l⟩ := O.at_
  unfold fieldIn at hc
  simp only [Bool.and_eq_true, beq_iff_eq] at hc
  obtain ⟨⟨h1, h2⟩, h3⟩ := hc
  refine get_value X I h1 ?_ hh (h _ (S.tok _))
  cases hcd : clsIn K C with
  | none => rw [hcd] at h3; cases h3
  | some cd =>
    rw [hcd] at h3
    have h3' : cd.hasDict = true := h3
    unfold findObj
    rw [hcd]
    simp only [Option.bind_some, h2, W.ownOf, h3', if_true, l, hl]
theorem a_fld {C x : Addr} {flds : List (Str × Value)} {name : Str} {v : Value} {expr : Bool} {Q : Value → Shared → Prop} (S : CS b s₀ h₀ env ρ Λ s) (G : Gr K h₀) (O : ObjAt s.heap C x flds) (hc : fieldIn K C name = true) (hl : (name, v) ∈ flds) (hh : handedIn v = true)
    (h : ∀ s', CS b s₀ h₀ env ρ Λ s' → Q v s') : wpAny (model prog w) A (getAttr (.ref x) name expr) Q E s := a_field S (G.mono S.base).X O hc (lookup_of_nodup O.nd hl) hh h
def methIn (K : Frag) (C : Addr) (name : Str) (f : Addr) : Bool :=
  findIn K (.ref C) "__getattribute__" == some (some (.builtin "object.__getattribute__")) && findIn K (.ref C) "__getattr__" == some none && findIn K (.ref C) name == some (some (.ref f)) && typeIn K (.ref f) == some (.type "function") && keepIn K (.ref f)
theorem m_get {C x f : Addr} {flds : List (Str × Value)} {name : Str} {pl : Sem Bool} {Q : Value × List Value → Shared → Prop} (X : K.In s.heap) (O : ObjAt s.heap C x flds) (hc : methIn K C name f = true) (hl : flds.lookup name = none)
    (h : Q (.ref f, [.ref x]) s) : wpAny (model prog w) A (getMethod (.ref x) name pl) Q E s := by
  obtain ⟨ox, od, I, l⟩ := O.at_
  unfold methIn at hc
  simp only [Bool.and_eq_true, beq_iff_eq] at hc
  obtain ⟨⟨⟨⟨h1, h2⟩, h3⟩, h4⟩, h5⟩ := hc
  refine method_fn X I h1 h2 h3 h4 ?_ h
  unfold shadowIn
  simp only [l, hl]; rfl
theorem methIn_keep {C f : Addr} {name : Str} (hc : methIn K C name f = true) : keepIn K (.ref f) = true := by
  unfold methIn at hc
  simp only [Bool.and_eq_true] at hc
  exact hc.2

/-- a def or a class of the text, called by its name -/
structure GF (K : Frag) (x : Str) (f : Addr) : Prop where
  ns : nsIn K mainGlobals x = some (some (.ref f))
  keep : keepIn K (.ref f) = true
  nd : (x == ("__debug__" : Str)) = false
/-- a built-in name that the text leaves alone -/
structure GB (K : Frag) (x : Str) (v : Value) : Prop where
  ns : nsIn K mainGlobals x = some none
  boot : bootBuiltins x = some v
  nn : x ≠ "__name__"
  nd : (x == ("__debug__" : Str)) = false
theorem n_gb {x : Str} {pos : Pos} {v : Value} {Q : Value → Shared → Prop} (S : CS b s₀ h₀ env ρ Λ s) (G : Gr K h₀) (g : GB K x v) (hx : env.kindOf x = some .globalImplicit) (hg : env.globals = mainGlobals) (hb : env.builtins = builtinsNs) (h : Q v s) :
    wpAny (model prog w) A (eval (.Name x pos) env) Q E s := n_built S G g.ns g.boot g.nn hx hg hb g.nd h
theorem callN {x : Str} {f : Addr} {np pos : Pos} {e : Expr} {rest : List Expr} {Q : Value → Shared → Prop} (S : CS b s₀ h₀ env ρ Λ s) (G : Gr K h₀) (g : GF K x f) (hx : env.kindOf x = some .globalImplicit) (hg : env.globals = mainGlobals)
    (h : wpAny (model prog w) A (spliced (backTo pos (starEach (e :: rest) env))) (fun vs s₁ => K.In s₁.heap ∧ wpAny (model prog w) A (call (.ref f) vs) Q E s₁) E s)
    (he : starEach (e :: rest) env = (false, eval e env) :: starEach rest env) (hplain : (backTo pos (starEach rest env)).any (·.1) = false) :
    wpAny (model prog w) A (eval (.Call (.Name x np) (e :: rest) [] pos) env) Q E s :=
  PyProof.Rows.Call_ (n_glob S G g.ns hx hg g.nd (callWith_K G.X g.keep h he hplain))
/-- a built-in function, or a built-in class, called by its name -/
theorem callB {x : Str} {id : String} {np pos : Pos} {e : Expr} {rest : List Expr} {Q : Value → Shared → Prop} (S : CS b s₀ h₀ env ρ Λ s) (G : Gr K h₀) (g : GB K x (.builtin id)) (hx : env.kindOf x = some .globalImplicit) (hg : env.globals = mainGlobals) (hb : env.builtins = builtinsNs)
    (h : wpAny (model prog w) A (spliced (backTo pos (starEach (e :: rest) env))) (fun vs s₁ => wpAny (model prog w) A (call (.builtin id) vs) Q E s₁) E s)
    (he : starEach (e :: rest) env = (false, eval e env) :: starEach rest env) (hplain : (backTo pos (starEach rest env)).any (·.1) = false) :
    wpAny (model prog w) A (eval (.Call (.Name x np) (e :: rest) [] pos) env) Q E s := by
  refine PyProof.Rows.Call_ (n_gb S G g hx hg hb ?_)
  have hb' : backTo pos (starEach (e :: rest) env) = (false, eval e env) :: backTo pos (starEach rest env) := by rw [he]; rfl
  rw [hb'] at h ⊢
  exact Calls.callWith_builtin (by rw [List.any_cons]; exact hplain) (Calls.evalArgs_plain h)
theorem callT {x : Str} {T : String} {np pos : Pos} {e : Expr} {rest : List Expr} {Q : Value → Shared → Prop} (S : CS b s₀ h₀ env ρ Λ s) (G : Gr K h₀) (g : GB K x (.type T)) (hx : env.kindOf x = some .globalImplicit) (hg : env.globals = mainGlobals) (hb : env.builtins = builtinsNs)
    (h : wpAny (model prog w) A (spliced (backTo pos (starEach (e :: rest) env))) (fun vs s₁ => wpAny (model prog w) A (call (.type T) vs) Q E s₁) E s)
    (he : starEach (e :: rest) env = (false, eval e env) :: starEach rest env) (hplain : (backTo pos (starEach rest env)).any (·.1) = false) :
    wpAny (model prog w) A (eval (.Call (.Name x np) (e :: rest) [] pos) env) Q E s := by
  refine PyProof.Rows.Call_ (n_gb S G g hx hg hb ?_)
  have hb' : backTo pos (starEach (e :: rest) env) = (false, eval e env) :: backTo pos (starEach rest env) := by rw [he]; rfl
  rw [hb'] at h ⊢
  exact PySem.callWith_type (by rw [List.any_cons]; exact hplain) (Calls.evalArgs_plain h)
/-- a method of a built-in object -/
theorem cw_meth {id : String} {self : Value} {pos : Pos} {e : Expr} {rest : List Expr} {Q : Value → Shared → Prop}
    (h : wpAny (model prog w) A (spliced (backTo pos (starEach (e :: rest) env))) (fun vs s₁ => wpAny (model prog w) A (call (.builtin id) (self :: vs)) Q E s₁) E s)
    (he : starEach (e :: rest) env = (false, eval e env) :: starEach rest env) (hplain : (backTo pos (starEach rest env)).any (·.1) = false) :
    wpAny (model prog w) A (callWith pos (.builtin id) [self] (backTo pos (starEach (e :: rest) env)) []) Q E s := by
  have hb' : backTo pos (starEach (e :: rest) env) = (false, eval e env) :: backTo pos (starEach rest env) := by rw [he]; rfl
  rw [hb'] at h ⊢
  exact Calls.callWith_builtin (by rw [List.any_cons]; exact hplain) (Calls.evalArgs_plain h)
theorem cw_meth0 {id : String} {self : Value} {pos : Pos} {Q : Value → Shared → Prop} (h : wpAny (model prog w) A (call (.builtin id) [self]) Q E s) :
    wpAny (model prog w) A (callWith pos (.builtin id) [self] (backTo pos (starEach [] env)) []) Q E s :=
  Calls.callWith_builtin rfl (PySem.evalArgs_none h)
/-- a method of the text's own -/
theorem cw_own {f : Addr} {self : Value} {pos : Pos} {e : Expr} {rest : List Expr} {Q : Value → Shared → Prop} (G : Gr K h₀) (hk : keepIn K (.ref f) = true)
    (h : wpAny (model prog w) A (spliced (backTo pos (starEach (e :: rest) env))) (fun vs s₁ => K.In s₁.heap ∧ wpAny (model prog w) A (call (.ref f) (self :: vs)) Q E s₁) E s)
    (he : starEach (e :: rest) env = (false, eval e env) :: starEach rest env) (hplain : (backTo pos (starEach rest env)).any (·.1) = false) :
    wpAny (model prog w) A (callWith pos (.ref f) [self] (backTo pos (starEach (e :: rest) env)) []) Q E s := callWith_K G.X hk h he hplain
theorem cw_own0 {f : Addr} {self : Value} {pos : Pos} {Q : Value → Shared → Prop} (X : K.In s.heap) (hk : keepIn K (.ref f) = true) (h : wpAny (model prog w) A (call (.ref f) [self]) Q E s) :
    wpAny (model prog w) A (callWith pos (.ref f) [self] (backTo pos (starEach [] env)) []) Q E s := callWith_K0 X hk h
end
end Fl

namespace Fl
open PySem PySem.W PySem.Calls PyProof.Rows

/-- an object of the changed ones is changed -/
inductive Chg (a : Addr) (o o' : Obj) : List (Addr × Obj) → List (Addr × Obj) → Prop
  | head {r} : Chg a o o' ((a, o) :: r) ((a, o') :: r)
  | tail {p r r'} : Chg a o o' r r' → Chg a o o' (p :: r) (p :: r')
theorem Chg.adr {a : Addr} {o o' : Obj} {Λ Λ' : List (Addr × Obj)} (h : Chg a o o' Λ Λ') : Λ'.map (·.1) = Λ.map (·.1) := by
  induction h with
  | head => rfl
  | tail _ ih => simp only [List.map_cons, ih]
theorem Chg.mem {a : Addr} {o o' : Obj} {Λ Λ' : List (Addr × Obj)} (h : Chg a o o' Λ Λ') : (a, o) ∈ Λ := by
  induction h with
  | head => exact List.mem_cons_self ..
  | tail _ ih => exact List.mem_cons_of_mem _ ih
theorem Chg.look {a : Addr} {o o' : Obj} {Λ Λ' : List (Addr × Obj)} (h : Chg a o o' Λ Λ') (nd : (Λ.map (·.1)).Nodup) {p : Addr × Obj} (hp : p ∈ Λ') : p = (a, o') ∨ (p.1 ≠ a ∧ p ∈ Λ) := by
  induction h with
  | head =>
    rw [List.map_cons, List.nodup_cons] at nd
    rcases List.mem_cons.mp hp with rfl | hp
    · exact .inl rfl
    · refine .inr ⟨fun q => nd.1 ?_, List.mem_cons_of_mem _ hp⟩
      have := List.mem_map_of_mem (f := (·.1)) hp
      rw [q] at this; exact this
  | tail hc ih =>
    rw [List.map_cons, List.nodup_cons] at nd
    rcases List.mem_cons.mp hp with rfl | hp
    · refine .inr ⟨fun q => nd.1 ?_, List.mem_cons_self ..⟩
      have := List.mem_map_of_mem (f := (·.1)) hc.mem
      rw [q]; exact this
    · rcases ih nd.2 hp with q | ⟨q1, q2⟩
      · exact .inl q
      · exact .inr ⟨q1, List.mem_cons_of_mem _ q2⟩

namespace CS
variable {b : Bool} {s₀ s s' : Shared} {h₀ h₁ : Heap} {env : Env} {ρ ρ' : Rho} {Λ Λ' : List (Addr × Obj)}
theorem chg (S : CS true s₀ h₀ env ρ Λ s) {a : Addr} {o o' : Obj} {h' : Heap} {tk : Nat} (U : Chg a o o' Λ Λ') (hs : ∀ c x, c ≠ a → s.heap.get? c = some x → h'.get? c = some x) (ho : h'.get? a = some o') : CS true s₀ h₀ env ρ Λ' { s with heap := h', toks := tk } := by
  obtain ⟨e, e1, e2, e3⟩ := S.led (a, o) U.mem
  refine ⟨S.kind, ?_, fun c x q => hs c x (fun w => ?_) (S.base c x q), (fun q => nomatch q), ?_, fun x v c a1 a2 a3 => ?_, fun n c q => ?_, S.apart, S.kinds, S.locs, S.nd, fun p hp => ?_, U.adr ▸ S.lnd⟩
  · obtain ⟨h, t, rfl⟩ := S.same; exact ⟨h', tk, rfl⟩
  · rw [w, e3 rfl] at q; cases q
  · obtain ⟨m, hn, hm⟩ := S.ns; exact ⟨m, hn.at' fun o q => hs _ o e1.symm q, hm⟩
  · obtain ⟨o, q, r⟩ := S.cell x v c a1 a2 a3; exact ⟨o, hs _ o (fun w => e2 x (w ▸ a3)) q, r⟩
  · obtain ⟨⟨v, o, q', r'⟩, r⟩ := S.cells n c q; exact ⟨⟨v, o, hs _ o (fun w => e2 n (w ▸ q)) q', r'⟩, r⟩
  · rcases U.look S.lnd hp with rfl | ⟨q1, q2⟩
    · exact ⟨ho, e1, e2, e3⟩
    · obtain ⟨x, r⟩ := S.led p q2; exact ⟨hs _ _ q1 x, r⟩
theorem atLed (S : CS b s₀ h₀ env ρ Λ s) {a : Addr} {o : Obj} (h : (a, o) ∈ Λ) : s.heap.get? a = some o := (S.led _ h).1
theorem atBase (S : CS b s₀ h₀ env ρ Λ s) {a : Addr} {o : Obj} (h : h₀.get? a = some o) : s.heap.get? a = some o := S.base _ _ h
theorem gr {K : Frag} (S : CS b s₀ h₀ env ρ Λ s) (G : Gr K h₀) : Gr K s.heap := G.mono S.base
theorem pushK (S : CS b s₀ h₀ env ρ Λ s) (o : Obj) (tk : Nat) : CS b s₀ h₀ env ρ Λ { s with heap := s.heap.push o, toks := tk } :=
  S.keeps ⟨_, tk, rfl, fun _ _ e => Heap.get?_push_of_some _ e⟩
/-- a changed object that is no longer of interest -/
theorem forget (S : CS true s₀ h₀ env ρ Λ s) (h : ∀ p ∈ Λ', p ∈ Λ) (nd : (Λ'.map (·.1)).Nodup) : CS true s₀ h₀ env ρ Λ' s :=
  ⟨S.kind, S.same, S.base, S.all, S.ns, S.cell, S.cells, S.apart, S.kinds, S.locs, S.nd, fun p hp => S.led p (h p hp), nd⟩
theorem tl (S : CS true s₀ h₀ env ρ Λ s) {p : Addr × Obj} (h : p :: Λ' = Λ) : CS true s₀ h₀ env ρ Λ' s := by
  subst h
  have := S.lnd
  rw [List.map_cons, List.nodup_cons] at this
  exact S.forget (fun p hp => List.mem_cons_of_mem _ hp) this.2
end CS

section
variable {prog : Program} {w : World} {A : Around} {E : Value → Shared → Prop} {s s₀ : Shared} {h₀ : Heap} {env : Env} {ρ ρ' : Rho} {Λ Λ' : List (Addr × Obj)} {b : Bool} {K : Frag}

/-- an iterator just made: it hands out n values, the i-th as P says -/
def It (prog : Program) (w : World) (A : Around) (s₀ : Shared) (h₀ : Heap) (env : Env) (ρ : Rho) (Λ : List (Addr × Obj)) (n : Nat) (P : Nat → Value → Prop) (it : Value) (s : Shared) : Prop :=
  ∃ I fp wr St, it = .ref I ∧ Walks prog w A I fp wr n P St ∧ St 0 s.heap ∧ (∀ a ∈ fp, a < s.heap.objs.size) ∧ (∀ a ∈ wr, h₀.get? a = none) ∧ (∀ a ∈ fp, ¬ CS.own env Λ a) ∧ CS true s₀ h₀ env ρ Λ s

theorem it_list {l : Addr} {ys : Array Value} {o : Obj} {Q : Value → Shared → Prop} (S : CS true s₀ h₀ env ρ Λ s) (hh : A.handled = none) (ho : h₀.get? l = some o) (hl : o.cls = .type "list") (hd : ∃ n, o.data = .seq ys n)
    (h : ∀ it s', It prog w A s₀ h₀ env ρ Λ ys.size (fun i v => ys[i]? = some v) it s' → Q it s') : wpAny (model prog w) A (pyIter (.ref l)) Q E s := by
  have hL : s.heap.IsList l ys := ⟨o, S.atBase ho, hl, hd⟩
  have hlt : l < s.heap.objs.size := Heap.lt_size (S.atBase ho)
  refine wpAny_pyIter_list hL (h _ _ ⟨s.heap.objs.size, _, _, _, rfl, Walks.list hh _ l (Nat.ne_of_lt hlt) ys, ⟨⟨_, Heap.get?_push_size _ rfl, rfl, rfl⟩, hL.at fun o e => Heap.get?_push_of_some _ e⟩, ?_, ?_, ?_, S.pushK _ _⟩)
  · intro a ha
    rw [Heap.size_push]
    rcases List.mem_cons.mp ha with rfl | ha
    · exact Nat.lt_succ_self _
    · rw [List.mem_singleton.mp ha]; exact Nat.lt_succ_of_lt hlt
  · intro a ha
    rw [List.mem_singleton.mp ha]
    exact S.base.none (fresh_none (Nat.le_refl _))
  · intro a ha ho'
    rcases List.mem_cons.mp ha with rfl | ha
    · obtain ⟨o', q⟩ := S.own_at ho'
      exact absurd (Heap.lt_size q) (Nat.lt_irrefl _)
    · rw [List.mem_singleton.mp ha] at ho'
      rw [S.own_no ho'] at ho; cases ho

theorem it_str {x : Str} {t : Tok} {Q : Value → Shared → Prop} (S : CS true s₀ h₀ env ρ Λ s) (hh : A.handled = none)
    (h : ∀ it s', It prog w A s₀ h₀ env ρ Λ x.cps.size (SignAt x) it s' → Q it s') : wpAny (model prog w) A (pyIter (.str x t)) Q E s := by
  refine wpAny_pyIter_str fun o St W hst => h _ _ ⟨s.heap.objs.size, _, _, _, rfl, W A hh, hst, ?_, ?_, ?_, S.pushK _ _⟩
  · intro a ha
    rw [List.mem_singleton.mp ha, Heap.size_push]; exact Nat.lt_succ_self _
  · intro a ha
    rw [List.mem_singleton.mp ha]
    exact S.base.none (fresh_none (Nat.le_refl _))
  · intro a ha ho'
    rw [List.mem_singleton.mp ha] at ho'
    obtain ⟨o', q⟩ := S.own_at ho'
    exact absurd (Heap.lt_size q) (Nat.lt_irrefl _)

theorem range_size {n : Int} : Builtin.Range.rangeSize 0 n 1 = n.toNat := by
  unfold Builtin.Range.rangeSize
  simp only [show (1 : Int) > 0 from by decide, if_true]
  split
  · rw [show n - 0 - 1 = n - 1 by (first | lia | omega), Int.ediv_one]; (first | lia | omega)
  · (first | lia | omega)
theorem r_range {n : Int} {t : Tok} {Q : Value → Shared → Prop} (S : CS b s₀ h₀ env ρ Λ s) (h : ∀ r t₁ u₁ v₁ s', IsRange s'.heap r 0 n 1 t₁ u₁ v₁ → CS b s₀ h₀ env ρ Λ s' → Q (.ref r) s') : wpAny (model prog w) A (call (.type "range") [.int n t]) Q E s :=
  PySem.call_range_1 (h _ _ _ _ _ (Heap.get?_push_size _ rfl) (S.pushK _ _))
theorem it_range {r : Addr} {n : Int} {t u v : Tok} {Q : Value → Shared → Prop} (S : CS true s₀ h₀ env ρ Λ s) (hh : A.handled = none) (hr : IsRange s.heap r 0 n 1 t u v) (hn : n < 2 ^ 62) (hn' : -(2 ^ 62) ≤ n)
    (h : ∀ it s', It prog w A s₀ h₀ env ρ Λ n.toNat (fun i v => ∃ t, v = .int (i : Int) t) it s' → Q it s') : wpAny (model prog w) A (pyIter (.ref r)) Q E s := by
  have hsm : Builtin.Range.small 0 n 1 = true := small_one (by decide) (by decide) hn' hn
  refine wpAny_pyIter_range hr hsm (h _ _ ⟨s.heap.objs.size, [s.heap.objs.size], [s.heap.objs.size], (fun i h => IsRangeIter h s.heap.objs.size (0 + (i : Nat) * 1) ((n.toNat : Int) - (i : Nat)) 1), rfl, ?W, ?st, ?_, ?_, ?_, S.pushK _ _⟩)
  case W =>
    have := Walks.range (prog := prog) (w := w) hh s.heap.objs.size 0 1 n.toNat
    exact ⟨this.sub, this.frame, fun i s Q E hi st hQ => this.item i s Q E hi st fun v h' tk hP => hQ v h' tk (by obtain ⟨t, e⟩ := hP; exact ⟨t, by rw [e]; congr 1; (first | lia | omega)⟩), this.done, this.self⟩
  case st =>
    show IsRangeIter _ _ _ _ _
    have e := range_size (n := n)
    rw [e]
    have : (0 : Int) + ((0 : Nat) : Int) * 1 = 0 := by (first | lia | omega)
    rw [this]
    have : ((n.toNat : Nat) : Int) - ((0 : Nat) : Int) = ((n.toNat : Nat) : Int) := by (first | lia | omega)
    rw [this]
    exact Heap.get?_push_size _ rfl
  · intro a ha
    rw [List.mem_singleton.mp ha, Heap.size_push]; exact Nat.lt_succ_self _
  · intro a ha
    rw [List.mem_singleton.mp ha]
    exact S.base.none (fresh_none (Nat.le_refl _))
  · intro a ha ho'
    rw [List.mem_singleton.mp ha] at ho'
    obtain ⟨o', q⟩ := S.own_at ho'
    exact absurd (Heap.lt_size q) (Nat.lt_irrefl _)
end
end Fl

namespace Fl
open PySem PySem.W PySem.Calls PyProof.Rows

abbrev envF (qual : Str) (scope : Scope) (L f : Addr) (cdv : Value) : Env :=
  { scope := scope, locals := L, globals := mainGlobals, cells := cellsFrom (L + 1) scope.names [], qual := qual ++ ".<locals>.", func := some f, code := cdv, frame := some L, builtins := builtinsNs }

def bindsOk (scope : Scope) (binds : List (Str × Value)) : Bool := binds.all fun y => scope.names.lookup y.1 == some .local || scope.names.lookup y.1 == some .cell
def nodupS : List Str → Bool
  | [] => true
  | x :: r => !r.contains x && nodupS r
theorem nodupS_nodup : ∀ {l : List Str}, nodupS l = true → l.Nodup
  | [], _ => List.nodup_nil
  | x :: r, h => by
    simp only [nodupS, Bool.and_eq_true, Bool.not_eq_true', List.contains_eq_mem, decide_eq_false_iff_not] at h
    exact List.nodup_cons.mpr ⟨h.1, nodupS_nodup h.2⟩
/-- what is asked of a def to be entered, all of it by evaluation -/
def defOk (scope : Scope) : Bool := nodupS (scope.names.map (·.1)) && !scope.isCoroutine && !scope.isGenerator && (match scope.kind with | .function => true | _ => false)

/-- behind a body: what it hands back -/
def RetQ (Q : Value → Shared → Prop) (f : Flow) (s' : Shared) : Prop := Q (match f with | .ret v => v | _ => .none) s'
/-- an exception that leaves a frame -/
def OutE (M : Model) (A : Around) (env : Env) (E : Value → Shared → Prop) (e : Value) (s' : Shared) : Prop := wpAny M (A.deeper env) (leaving env e) (fun _ s'' => E e s'') (fun e' s'' => E e' s'') s'
/-- behind a statement: the rest, where it goes on -/
def SeqQ (M : Model) (A : Around) (env : Env) (E : Value → Shared → Prop) (rest : List Stmt) (Q : Flow → Shared → Prop) (f : Flow) (s' : Shared) : Prop := match f with | .next => wpAny M A (execs rest env) Q E s' | f => Q f s'
/-- behind a loop's turn -/
def LoopQ (N : Shared → Prop) (Q : Flow → Shared → Prop) (f : Flow) (s₂ : Shared) : Prop := match f with
  | .next | .cont => N s₂
  | .brk => Q .next s₂
  | .ret v => Q (.ret v) s₂
/-- an exception within a loop -/
def NoteE (M : Model) (A : Around) (env : Env) (E : Value → Shared → Prop) : Value → Shared → Prop := notedBy M A env fun e s' => cameBackBy M A env E e s'

theorem ret_ret {Q : Value → Shared → Prop} {v : Value} {s : Shared} (h : Q v s) : RetQ Q (.ret v) s := h
theorem ret_next {Q : Value → Shared → Prop} {s : Shared} (h : Q .none s) : RetQ Q .next s := h
theorem seq_ret {M : Model} {A : Around} {env : Env} {E : Value → Shared → Prop} {rest : List Stmt} {Q : Flow → Shared → Prop} {v : Value} {s : Shared} (h : Q (.ret v) s) : SeqQ M A env E rest Q (.ret v) s := h
theorem seq_next {M : Model} {A : Around} {env : Env} {E : Value → Shared → Prop} {rest : List Stmt} {Q : Flow → Shared → Prop} {s : Shared} (h : wpAny M A (execs rest env) Q E s) : SeqQ M A env E rest Q .next s := h
theorem loop_next {N : Shared → Prop} {Q : Flow → Shared → Prop} {s : Shared} (h : N s) : LoopQ N Q .next s := h

section
variable {M : Model} {A : Around} {env : Env} {E : Value → Shared → Prop} {Q : Flow → Shared → Prop} {rest : List Stmt} {s : Shared}
theorem x_nil (h : Q .next s) : wpAny M A (execs [] env) Q E s := wpAny_execs_nil h
theorem x_ret {e : Expr} {pos : Pos} (h : wpAny M A (eval e env) (fun v s' => Q (.ret v) s') E s) : wpAny M A (execs (.Return (some e) pos :: rest) env) Q E s := wpAny_execs_cons (wpAny_Return_some h)
theorem x_assign {x : Str} {pos' pos : Pos} {value : Expr} (h : wpAny M A (eval value env) (fun v s₁ => wpAny M A (storeName env x v) (fun _ s₂ => wpAny M A (execs rest env) Q E s₂) E s₁) E s)
    (hs : swapsWith value (some (.Name x pos')) pos.line env = pure false) : wpAny M A (execs (.Assign [.Name x pos'] value pos :: rest) env) Q E s := wpAny_execs_cons (wpAny_Assign_Name h hs)
theorem x_if {test : Expr} {body orelse : List Stmt} {pos : Pos} (h : wpAny M A (isTrue test env (eval test env)) (fun b s₂ => if b = true then wpAny M A (execs body env) (SeqQ M A env E rest Q) E s₂ else wpAny M A (execs orelse env) (SeqQ M A env E rest Q) E s₂) E s) :
    wpAny M A (execs (.If test body orelse pos :: rest) env) Q E s := wpAny_execs_cons (wpAny_If h)
/-- a statement by what holds behind it, where it always goes on -/
theorem x_cut {st : Stmt} (P : Shared → Prop) (h1 : wpAny M A (exec st env) (fun f s' => f = .next ∧ P s') E s) (h2 : ∀ s', P s' → wpAny M A (execs rest env) Q E s') : wpAny M A (execs (st :: rest) env) Q E s := by
  refine wpAny_execs_cons (wpAny_mono h1 (fun f s' h => ?_) fun _ _ e => e)
  obtain ⟨rfl, p⟩ := h
  exact h2 s' p
theorem x_one {st : Stmt} {Q' : Flow → Shared → Prop} (h : wpAny M A (execs [st] env) Q' E s) : wpAny M A (exec st env) Q' E s := by
  have := h
  rw [show execs [st] env = (exec st env >>= fun f => match f with | .next => execs [] env | f => pure f) from rfl] at this
  have e : (exec st env >>= fun f => match f with | .next => execs [] env | f => pure f) = exec st env >>= pure := by
    congr 1; funext f; cases f <;> rfl
  rw [e, bind_pure] at this
  exact this
end

section
variable {prog : Program} {w : World} {A : Around} {s s₀ : Shared} {h₀ : Heap} {env : Env} {ρ : Rho} {Λ : List (Addr × Obj)} {E : Value → Shared → Prop} {Q : Flow → Shared → Prop}
/-- a for loop over a fresh iterator -/
theorem loop_it {body : List Stmt} {x : Str} {px : Pos} {n : Nat} {P : Nat → Value → Prop} {it : Value} (J : Nat → Rho → List (Addr × Obj) → Prop) (I : It prog w A s₀ h₀ env ρ Λ n P it s) (hJ : J 0 ρ Λ)
    (hadr : ∀ i ρ' Λ', J i ρ' Λ' → Λ'.map (·.1) = Λ.map (·.1))
    (turn : ∀ i v ρ₁ Λ₁, i < n → P i v → J i ρ₁ Λ₁ → ∃ ρ₂, Put x v ρ₁ ρ₂ ∧ ∀ h₁ s₁, Sub h₀ h₁ → CS true s₀ h₁ env ρ₂ Λ₁ s₁ → ∀ Q' : Flow → Shared → Prop,
      (∀ h' ρ' Λ' s₂, Sub h₁ h' → CS true s₀ h' env ρ' Λ' s₂ → J (i + 1) ρ' Λ' → Q' .next s₂) → (∀ v s₂, Q (.ret v) s₂ → Q' (.ret v) s₂) → wpAny (model prog w) A (execs body env) Q' (NoteE (model prog w) A env E) s₁)
    (done : ∀ ρ' Λ' s', J n ρ' Λ' → CS true s₀ h₀ env ρ' Λ' s' → Q .next s') :
    codeAny (model prog w) A (.forLoop (.Name x px) it body [] env) (fun r s' => match r with | .ok f => Q f s' | .error e => cameBackBy (model prog w) A env E e s') s := by
  obtain ⟨I, fp, wr, St, rfl, W, hst, _, hwr, hfp, S⟩ := I
  refine loop_inv J W S hst hfp hwr hJ hadr (fun i v ρ₁ Λ₁ a b c => ?_) done
  obtain ⟨ρ₂, p, q⟩ := turn i v ρ₁ Λ₁ a b c
  exact ⟨ρ₂, p, fun h₁ s₁ k S => q h₁ s₁ k S _ (fun h' ρ' Λ' s₂ a b c => ⟨h', ρ', Λ', a, b, c⟩) fun v s₂ z => z⟩
theorem x_for {target iter : Expr} {body rest : List Stmt} {pos : Pos} (hs : ∀ x, foldedSetIterable iter env x = pure x)
    (h : wpAny (model prog w) A (eval iter env) (fun x s₁ => wpAny (model prog w) A (pyIter x) (fun it s₂ =>
      codeAny (model prog w) A (.forLoop target it body [] env) (fun r s' => match r with | .ok f => SeqQ (model prog w) A env E rest Q f s' | .error e => cameBackBy (model prog w) A env E e s') s₂) E s₁) E s) :
    wpAny (model prog w) A (execs (.For target iter body [] pos :: rest) env) Q E s := wpAny_execs_cons (wpAny_For h hs)
end

section
variable {prog : Program} {w : World} {A : Around} {E : Value → Shared → Prop} {s : Shared} {h₀ : Heap} {Λ : List (Addr × Obj)} {K : Frag}
/-- a def of the text is called -/
theorem callK {Q : Value → Shared → Prop} {f : Addr} {name qual : Str} {params : Arguments} {body : List Stmt} {scope : Scope} {dV kV doc pm cdv ct oc : Value} {an od : Option Addr} {osl : Array (Option Value)} {vals : List Value} {binds : List (Str × Value)} (ρ : Rho)
    (G : Gr K s.heap) (hroom : A.depth < recursionLimit)
    (ho : K.lookup f = some ⟨oc, od, .func (fnOf name qual params body scope dV kV doc pm an cdv ct), osl⟩) (hcd : codeIn K cdv qual = true)
    (hbind : bindArgs (fnOf name qual params body scope dV kV doc pm an cdv ct) ⟨vals, []⟩ = pure binds) (hd : defOk scope = true) (hb1 : bindsOk scope binds = true) (hb2 : nodupS (binds.map (·.1)) = true) (hρ : rho0 scope.names binds = ρ)
    (hb : Sub h₀ s.heap) (hΛ : ∀ p ∈ Λ, s.heap.get? p.1 = some p.2 ∧ h₀.get? p.1 = none) (hΛn : (Λ.map (·.1)).Nodup)
    (h : ∀ L s₁, CS true s h₀ (envF qual scope L f cdv) ρ Λ s₁ →
      wpAny (model prog w) (A.deeper (envF qual scope L f cdv)) (execs body (envF qual scope L f cdv)) (RetQ Q) (OutE (model prog w) A (envF qual scope L f cdv) E) s₁) :
    wpAny (model prog w) A (call (.ref f) vals) Q E s := by
  unfold defOk at hd
  simp only [Bool.and_eq_true, Bool.not_eq_true'] at hd
  obtain ⟨⟨⟨h1, h2⟩, h3⟩, h4⟩ := hd
  have h4' : scope.kind = .function := by
    cases hk : scope.kind <;> first | rfl | (rw [hk] at h4; cases h4)
  exact wpAny_call (call_def (fd := fnOf name qual params body scope dV kV doc pm an cdv ct) hroom (G.X _ _ ho) rfl G.lim (codeRec_of G.X hcd) rfl hbind rfl hb1 (nodupS_nodup hb2) (nodupS_nodup h1) hρ hb hΛ hΛn (h _) h2 h3 h4')

/-- a def that changes nothing of what stood -/
theorem callP {Q : Value → Shared → Prop} {f : Addr} {name qual : Str} {params : Arguments} {body : List Stmt} {scope : Scope} {dV kV doc pm cdv ct oc : Value} {an od : Option Addr} {osl : Array (Option Value)} {vals : List Value} {binds : List (Str × Value)} (ρ : Rho)
    (G : Gr K s.heap) (hroom : A.depth < recursionLimit)
    (ho : K.lookup f = some ⟨oc, od, .func (fnOf name qual params body scope dV kV doc pm an cdv ct), osl⟩) (hcd : codeIn K cdv qual = true)
    (hbind : bindArgs (fnOf name qual params body scope dV kV doc pm an cdv ct) ⟨vals, []⟩ = pure binds) (hd : defOk scope = true) (hb1 : bindsOk scope binds = true) (hb2 : nodupS (binds.map (·.1)) = true) (hρ : rho0 scope.names binds = ρ)
    (h : ∀ L s₁, CS true s s.heap (envF qual scope L f cdv) ρ [] s₁ →
      wpAny (model prog w) (A.deeper (envF qual scope L f cdv)) (execs body (envF qual scope L f cdv)) (RetQ Q) (OutE (model prog w) A (envF qual scope L f cdv) E) s₁) :
    wpAny (model prog w) A (call (.ref f) vals) Q E s :=
  callK (Λ := []) ρ G hroom ho hcd hbind hd hb1 hb2 hρ (Sub.refl _) (fun _ h => nomatch h) List.nodup_nil h

-- lists and texts read
variable {b : Bool} {s₀ : Shared} {env : Env} {ρ : Rho}
theorem b_len_list {l : Addr} {ys : Array Value} {Q : Value → Shared → Prop} (S : CS b s₀ h₀ env ρ Λ s) (hl : s.heap.IsList l ys) (hn : ys.size ≤ 16777216) (h : ∀ t s', CS b s₀ h₀ env ρ Λ s' → Q (.int ys.size t) s') : wpAny (model prog w) A (call (.builtin "len") [.ref l]) Q E s :=
  Calls.call_len_list hl (by (first | lia | omega)) (h _ _ (S.tok _))
theorem b_len_str {x : Str} {t : Tok} {Q : Value → Shared → Prop} (S : CS b s₀ h₀ env ρ Λ s) (hn : x.length ≤ 16777216) (h : ∀ t s', CS b s₀ h₀ env ρ Λ s' → Q (.int x.length t) s') : wpAny (model prog w) A (call (.builtin "len") [.str x t]) Q E s :=
  PySem.P.len_str (by (first | lia | omega)) (h _ _ (S.tok _))
theorem s_list {value slice : Expr} {l : Addr} {ys : Array Value} {k : Int} {u : Tok} {v : Value} {Q : Value → Shared → Prop} (hl : s.heap.IsList l ys) (h0 : 0 ≤ k) (hf : k < 2 ^ 63) (hv : ys[k.toNat]? = some v)
    (hs : subscripted slice false (.ref l) (.int k u) = operate [.ref l, .int k u] (getItem (.ref l) (.int k u))) (h : Q v s) : wpAny (model prog w) A (subscriptTail value slice (.ref l) (.int k u)) Q E s :=
  tail_any hl.typeIs slot_list_getitem.lookup (wpAny_getItem_list hl h0 hf hv h) hs
end
end Fl

namespace Fl
open PySem PySem.W PySem.Calls PyProof.Rows

/-- a dict by names, of k entries at most -/
def NsO (o : Obj) (m : Str → Option Value) (k : Nat) : Prop := ∃ es ep, o = ⟨.type "dict", none, .dict es ep, #[]⟩ ∧ StrKeys es ∧ (∀ n, nsFind es n = m n) ∧ es.size ≤ k
theorem NsO.nil : NsO (dictOf [] 0) (fun _ => none) 0 := ⟨#[], 0, rfl, fun e h => by simp at h, fun n => rfl, Nat.le_refl _⟩
theorem NsO.put {o : Obj} {m : Str → Option Value} {k : Nat} (h : NsO o m k) (name : Str) (hash : Int) (t : Tok) (v : Value) : NsO (o.putName name hash (.str name t) v) (fun y => if y = name then some v else m y) (k + 1) := by
  obtain ⟨es, ep, rfl, hk, hm, hz⟩ := h
  cases hi : es.findIdx? (fun e => e.key.isStr name) with
  | some i =>
    refine ⟨es.modify i fun e => { e with val := v }, ep, by simp only [Obj.putName_eq, Obj.putNameByArray, hi], hk.modify _ _, fun x => ?_, by simpa using Nat.le_succ_of_le hz⟩
    show _ = if x = name then some v else m x
    rw [← hm x]
    exact findBy_modify (fun n v => v.isStr n) Value.isStr_inj es name x v i hi
  | none =>
    refine ⟨es.push ⟨hash, .str name t, v⟩, ep + 1, by simp only [Obj.putName_eq, Obj.putNameByArray, hi], hk.push _ _ _ _, fun x => ?_, by simpa using hz⟩
    show _ = if x = name then some v else m x
    rw [← hm x]
    exact findBy_push (fun n v => v.isStr n) es name x hash (.str name t) v (fun y => by
      show (name == y) = decide (y = name)
      by_cases h : y = name
      · subst h; simp
      · have : ¬ name = y := fun e => h e.symm
        simp [h, this]) hi
theorem NsO.look {o : Obj} {m : Str → Option Value} {k : Nat} (h : NsO o m k) (n : Str) : lookIn n o = some (m n) := by
  obtain ⟨es, ep, rfl, hk, hm, _⟩ := h
  rw [← hm n]
  unfold lookIn nsFind findBy
  dsimp only
  rw [← Array.find?_toList]
  cases hf : es.toList.find? (fun x => x.key.isStr n) with
  | some e => rfl
  | none =>
    have : es.toList.any (·.refKey) = false := by
      rw [List.any_eq_false]
      intro e he
      obtain ⟨x, t, q⟩ := hk e (by simpa using he)
      simp [DictEntry.refKey, q]
    simp [this]

/-- as Chg, for any new object -/
inductive ChgF (a : Addr) (o : Obj) : List (Addr × Obj) → (Obj → List (Addr × Obj)) → Prop
  | head {r} : ChgF a o ((a, o) :: r) (fun o' => (a, o') :: r)
  | tail {p r g} : ChgF a o r g → ChgF a o (p :: r) (fun o' => p :: g o')
theorem ChgF.to {a : Addr} {o : Obj} {Λ : List (Addr × Obj)} {g : Obj → List (Addr × Obj)} (h : ChgF a o Λ g) (o' : Obj) : Chg a o o' Λ (g o') := by
  induction h with
  | head => exact .head
  | tail _ ih => exact .tail ih

/-- a field that is stored into the own dict -/
def storeIn (K : Frag) (C : Addr) (name : Str) : Bool :=
  findIn K (.ref C) "__setattr__" == some (some (.builtin "object.__setattr__")) && plainOver K C && takerIn K C name == some none && (clsIn K C).any (·.hasDict)

section
variable {prog : Program} {w : World} {A : Around} {E : Value → Shared → Prop} {s s₀ : Shared} {h₀ : Heap} {env : Env} {ρ ρ' : Rho} {Λ Λ' : List (Addr × Obj)} {b : Bool} {K : Frag}

theorem a_store {C x dx : Addr} {name : Str} {v : Value} {od : Obj} {m : Str → Option Value} {k : Nat} {g : Obj → List (Addr × Obj)} {Q : Unit → Shared → Prop} (S : CS true s₀ h₀ env ρ Λ s) (X : K.In s.heap) (hx : s.heap.get? x = some (instObj C dx)) (hc : storeIn K C name = true)
    (U : ChgF dx od Λ g) (hn : NsO od m k) (hk : k < 1000)
    (h : ∀ o' s', NsO o' (fun y => if y = name then some v else m y) (k + 1) → CS true s₀ h₀ env ρ (g o') s' → Q () s') : wpAny (model prog w) A (setAttr (.ref x) name v) Q E s := by
  unfold storeIn at hc
  simp only [Bool.and_eq_true, beq_iff_eq] at hc
  obtain ⟨⟨⟨h1, h2⟩, h3⟩, h4⟩ := hc
  have D := S.atLed (U.to od).mem
  have I : W.InstAt s.heap x (instObj C dx) C (some od) := ⟨hx, rfl, rfl, D⟩
  refine set_plain X I h1 ?_
  have S' := S.tok (s.toks + 1)
  refine osa_open (s := { s with toks := s.toks + 1 }) X I h2 h3 fun b => ?_
  obtain ⟨cd, hcd, hd'⟩ := any_some h4
  refine wpAny_bind (wpAny_pure (wpAny_bind (wpAny_bind (wpAny_loadPart hx (wpAny_bind (Looks.here (s := { s with toks := s.toks + 1 }) (looks_clsIn X hcd) ?_))))))
  rw [hd']
  refine wpAny_pure (a := some dx) (wpAny_bind (wpAny_pure (wpAny_bind ?_)))
  unfold nsSet
  refine wpAny_bind (wpAny_bind (wpAny_askSetting (wpAny_pure (wpAny_bind (wpAny_mkText (wpAny_bind (wpAny_loadPart D ?_)))))))
  have hn' := hn.put name (PyData.keyHash w.params name) (s.toks + 1) v
  obtain ⟨es, ep, rfl, hkk, hm, hz⟩ := hn
  dsimp only
  have hany : es.any (·.refKey) = false := by
    rw [Array.any_eq_false']; intro e he; obtain ⟨n, t, h⟩ := hkk e he; simp [DictEntry.refKey, h]
  rw [aRefKeyMayBeTheName_at, hany, Bool.and_false]
  refine wpAny_updatePart D ?_
  have hself : (s.heap.update dx (Obj.putName name (PyData.keyHash w.params name) (.str name (s.toks + 1)) v)).get? dx = some _ := Heap.get?_update_self _ D (by obtain ⟨es', ep', e, _⟩ := hn'; rw [e]; rfl)
  refine wpAny_bind (wpAny_lookBehind hself ?_ ?_)
  · obtain ⟨es', ep', e, _, _, hz'⟩ := hn'
    rw [e]
    exact pastItsLine_dict (by rw [sizeLine_eq]; (first | lia | omega))
  · refine wpAny_pure (h _ _ hn' ?_)
    exact S'.chg (U.to _) (fun c x hc e => (Heap.get?_update_ne _ _ _ _ hc).trans e) hself
end
end Fl

namespace Fl
open PySem PySem.W PySem.Calls PyProof.Rows

/-- a list of ints, a list of texts -/
def IntL (h : Heap) (l : Addr) (ns : List Int) : Prop := ∃ vs, h.IsList l vs.toArray ∧ IntsAre vs ns
def StrL (h : Heap) (l : Addr) (xs : List Str) : Prop := ∃ vs, h.IsList l vs.toArray ∧ StrsAre vs xs
theorem isList_mono {h h' : Heap} {l : Addr} {ys : Array Value} (x : h.IsList l ys) (k : Sub h h') : h'.IsList l ys := x.at fun o e => k _ o e
theorem IntL.mono {h h' : Heap} {l : Addr} {ns : List Int} (x : IntL h l ns) (k : Sub h h') : IntL h' l ns := let ⟨vs, a, b⟩ := x; ⟨vs, isList_mono a k, b⟩
theorem StrL.mono {h h' : Heap} {l : Addr} {ns : List Str} (x : StrL h l ns) (k : Sub h h') : StrL h' l ns := let ⟨vs, a, b⟩ := x; ⟨vs, isList_mono a k, b⟩
theorem IntL.of {h : Heap} {l : Addr} {ys : Array Value} {k : Nat} {ns : List Int} (e : h.get? l = some (lst ys k)) (hi : IntsAre ys.toList ns) : IntL h l ns := ⟨ys.toList, ⟨_, e, rfl, k, by simp⟩, hi⟩
theorem StrL.of {h : Heap} {l : Addr} {ys : Array Value} {k : Nat} {ns : List Str} (e : h.get? l = some (lst ys k)) (hi : StrsAre ys.toList ns) : StrL h l ns := ⟨ys.toList, ⟨_, e, rfl, k, by simp⟩, hi⟩

section
variable {prog : Program} {w : World} {A : Around} {E : Value → Shared → Prop} {s s₀ : Shared} {h₀ : Heap} {env : Env} {ρ ρ' : Rho} {Λ Λ' : List (Addr × Obj)} {b : Bool} {K : Frag}

theorem l_len {l : Addr} {ns : List Int} {Q : Value → Shared → Prop} (S : CS b s₀ h₀ env ρ Λ s) (hl : IntL s.heap l ns) (hn : ns.length ≤ 16777216) (h : ∀ t s', CS b s₀ h₀ env ρ Λ s' → Q (.int ns.length t) s') : wpAny (model prog w) A (call (.builtin "len") [.ref l]) Q E s := by
  obtain ⟨vs, a, hi⟩ := hl
  have := hi.length
  refine b_len_list S a (by simpa [this] using hn) fun t s' S' => ?_
  simpa [this] using h t s' S'
theorem l_lenS {l : Addr} {ns : List Str} {Q : Value → Shared → Prop} (S : CS b s₀ h₀ env ρ Λ s) (hl : StrL s.heap l ns) (hn : ns.length ≤ 16777216) (h : ∀ t s', CS b s₀ h₀ env ρ Λ s' → Q (.int ns.length t) s') : wpAny (model prog w) A (call (.builtin "len") [.ref l]) Q E s := by
  obtain ⟨vs, a, hi⟩ := hl
  have := hi.length
  refine b_len_list S a (by simpa [this] using hn) fun t s' S' => ?_
  simpa [this] using h t s' S'
theorem l_at {value slice : Expr} {l : Addr} {ns : List Int} {k : Int} {u : Tok} {Q : Value → Shared → Prop} (hl : IntL s.heap l ns) (h0 : 0 ≤ k) (h1 : k < ns.length) (hn : ns.length ≤ 16777216)
    (hs : subscripted slice false (.ref l) (.int k u) = operate [.ref l, .int k u] (getItem (.ref l) (.int k u))) (h : ∀ t, Q (.int (ns.getD k.toNat 0) t) s) : wpAny (model prog w) A (subscriptTail value slice (.ref l) (.int k u)) Q E s := by
  obtain ⟨vs, a, hi⟩ := hl
  have hk : k.toNat < ns.length := by (first | lia | omega)
  obtain ⟨t, e⟩ := hi.get k.toNat ns[k.toNat] (by simp [hk])
  have : ns.getD k.toNat 0 = ns[k.toNat] := by simp [List.getD, hk]
  exact s_list a h0 (by (first | lia | omega)) (by simpa using e) hs (this ▸ h t)
theorem l_atS {value slice : Expr} {l : Addr} {ns : List Str} {k : Int} {u : Tok} {Q : Value → Shared → Prop} (hl : StrL s.heap l ns) (h0 : 0 ≤ k) (h1 : k < ns.length) (hn : ns.length ≤ 16777216)
    (hs : subscripted slice false (.ref l) (.int k u) = operate [.ref l, .int k u] (getItem (.ref l) (.int k u))) (h : ∀ t, Q (.str (ns.getD k.toNat Str.empty) t) s) : wpAny (model prog w) A (subscriptTail value slice (.ref l) (.int k u)) Q E s := by
  obtain ⟨vs, a, hi⟩ := hl
  have hk : k.toNat < ns.length := by (first | lia | omega)
  obtain ⟨t, e⟩ := hi.get k.toNat ns[k.toNat] (by simp [hk])
  have : ns.getD k.toNat Str.empty = ns[k.toNat] := by simp [List.getD, hk]
  exact s_list a h0 (by (first | lia | omega)) (by simpa using e) hs (this ▸ h t)
/-- a sign of a text -/
theorem t_at {value slice : Expr} {x : Str} {t u : Tok} {k : Int} {Q : Value → Shared → Prop} (S : CS b s₀ h₀ env ρ Λ s) (h0 : 0 ≤ k) (h1 : k < x.length) (hn : x.length ≤ 16777216)
    (hs : subscripted slice false (.str x t) (.int k u) = operate [.str x t, .int k u] (getItem (.str x t) (.int k u)))
    (h : ∀ t s', CS b s₀ h₀ env ρ Λ s' → Q (.str ⟨#[x.cps.getD k.toNat 0]⟩ t) s') : wpAny (model prog w) A (subscriptTail value slice (.str x t) (.int k u)) Q E s := by
  have hk : k.toNat < x.cps.size := by have : (x.length : Int) = x.cps.size := rfl; (first | lia | omega)
  refine tail_any (T := "str") (typeIs_str s x t) slot_str_getitem.lookup (PyProof.Rows.getItem_str (c := x.cps.getD k.toNat 0) ?_ ?_ (h _ _ (S.tok _))) hs
  · simp; (first | lia | omega)
  · have e : seqIndex? k x.length = some k.toNat := PySem.seqIndex_of h0 h1
    rw [e]
    simp [Array.getD, hk]

theorem t_len {x : Str} {t : Tok} {Q : Value → Shared → Prop} (S : CS b s₀ h₀ env ρ Λ s) (hn : x.length ≤ 16777216) (h : ∀ t s', CS b s₀ h₀ env ρ Λ s' → Q (.int x.length t) s') : wpAny (model prog w) A (call (.builtin "len") [.str x t]) Q E s := b_len_str S hn h
theorem t_in {x : Str} {c : Nat} {t u : Tok} {Q : Value → Shared → Prop} (h : Q (.bool (decide (c ∈ x.cps.toList))) s) : wpAny (model prog w) A (compareOp .In (.str ⟨#[c]⟩ u) (.str x t)) Q E s := PyProof.Rows.in_str (by rw [StrLaws.found_one]; exact h)
theorem t_notin {x : Str} {c : Nat} {t u : Tok} {Q : Value → Shared → Prop} (h : Q (.bool (!decide (c ∈ x.cps.toList))) s) : wpAny (model prog w) A (compareOp .NotIn (.str ⟨#[c]⟩ u) (.str x t)) Q E s := PyProof.Rows.notIn_str (by rw [StrLaws.found_one]; exact h)
theorem t_ne {x y : Str} {t u : Tok} {Q : Value → Shared → Prop} (h : Q (.bool (x != y)) s) : wpAny (model prog w) A (compareOp .NotEq (.str x t) (.str y u)) Q E s := PyProof.Rows.ne_str h
theorem t_join {D : Addr} {ys : List Str} {x : Str} {t : Tok} {Q : Value → Shared → Prop} (S : CS b s₀ h₀ env ρ Λ s) (hl : StrL s.heap D ys) (hok : (ys.map (·.length)).sum + ys.length * x.length ≤ 16777216)
    (h : ∀ t s', CS b s₀ h₀ env ρ Λ s' → Q (.str (Txt.join x ys) t) s') : wpAny (model prog w) A (call (.builtin "str.join") [.str x t, .ref D]) Q E s := by
  obtain ⟨vs, a, hi⟩ := hl
  exact PyProof.Rows.join_list a (by simpa using hi) hok fun t' k => h _ _ (S.tok _)

theorem l_notin {l : Addr} {ns : List Int} {k : Int} {t : Tok} {Q : Value → Shared → Prop} (hl : IntL s.heap l ns) (h : Q (.bool (!decide (k ∈ ns))) s) : wpAny (model prog w) A (compareOp .NotIn (.int k t) (.ref l)) Q E s := by
  obtain ⟨vs, a, hi⟩ := hl
  have e : ns.any (· == k) = decide (k ∈ ns) := by rw [Bool.eq_iff_iff]; simp [List.any_eq_true]
  exact PyProof.Rows.notin_list_ints a hi (e ▸ h)
theorem l_eq {l l' : Addr} {ns ms : List Int} {Q : Value → Shared → Prop} (hl : IntL s.heap l ns) (hl' : IntL s.heap l' ms) (hu : A.units + 64 < cLine) (h : Q (.bool (decide (ns = ms))) s) : wpAny (model prog w) A (compareOp .Eq (.ref l) (.ref l')) Q E s := by
  obtain ⟨vs, a, hi⟩ := hl
  obtain ⟨vs', a', hi'⟩ := hl'
  exact W.eq_intsK a hi a' hi' hu h
theorem l_ne {l l' : Addr} {ns ms : List Int} {Q : Value → Shared → Prop} (hl : IntL s.heap l ns) (hl' : IntL s.heap l' ms) (hu : A.units + 64 < cLine) (h : Q (.bool (!decide (ns = ms))) s) : wpAny (model prog w) A (compareOp .NotEq (.ref l) (.ref l')) Q E s := by
  obtain ⟨vs, a, hi⟩ := hl
  obtain ⟨vs', a', hi'⟩ := hl'
  exact W.ne_intsK a hi a' hi' hu h

/-- a new list, among the changed objects -/
theorem CS.pushL (S : CS b s₀ h₀ env ρ Λ s) (o : Obj) (tk : Nat) (hf : o.isFreed = false) : CS b s₀ h₀ env ρ ((s.heap.objs.size, o) :: Λ) { s with heap := s.heap.push o, toks := tk } := by
  have S' := S.pushK o tk
  have hno : ¬ CS.own env Λ s.heap.objs.size := fun h => by obtain ⟨o', q⟩ := S.own_at h; exact absurd (Heap.lt_size q) (Nat.lt_irrefl _)
  refine ⟨S'.kind, S'.same, S'.base, S'.all, S'.ns, S'.cell, S'.cells, S'.apart, S'.kinds, S'.locs, S'.nd, fun p hp => ?_, ?_⟩
  · rcases List.mem_cons.mp hp with rfl | hp
    · exact ⟨Heap.get?_push_size _ hf, fun q => hno (.inl q), fun n q => hno (.inr (.inl ⟨n, q⟩)), fun _ => S.base.none (fresh_none (Nat.le_refl _))⟩
    · exact S'.led p hp
  · rw [List.map_cons, List.nodup_cons]
    exact ⟨fun h => hno (.inr (.inr h)), S.lnd⟩
theorem l_new {vs : List Value} {Q : Value → Shared → Prop} (S : CS b s₀ h₀ env ρ Λ s) (hn : vs.length ≤ 16777216) (h : ∀ l s', CS b s₀ h₀ env ρ ((l, lst vs.toArray 0) :: Λ) s' → s.heap.get? l = none → Q (.ref l) s') : wpAny (model prog w) A (newList vs) Q E s :=
  wpAny_newList (h _ _ (S.pushL _ _ rfl) (fresh_none (Nat.le_refl _))) (by rw [sizeLine_eq]; exact hn)
/-- list(xs) -/
theorem l_copy {l : Addr} {o : Obj} {items : Array Value} {n : Nat} {Q : Value → Shared → Prop} (S : CS true s₀ h₀ env ρ Λ s) (ho : s.heap.get? l = some o) (hc : o.cls = .type "list") (hd : o.data = .seq items n) (hn : items.size ≤ 16777216)
    (h : ∀ D c s', CS true s₀ h₀ env ρ ((D, lst items c) :: Λ) s' → s.heap.get? D = none → Q (.ref D) s') : wpAny (model prog w) A (call (.type "list") [.ref l]) Q E s :=
  PySem.call_list_seq (hsz := by rw [sizeLine_eq]; exact hn) l (.inl rfl) ho hc hd fun h' c' hk hD => h _ c' _ (S.new (wr := []) (tk := s.toks) rfl (fun a o _ e => hk a o e) (fun _ h => nomatch h) (fun _ h => nomatch h) (fresh_none (Nat.le_refl _)) hD) (fresh_none (Nat.le_refl _))
theorem l_append {l : Addr} {ys : Array Value} {k : Nat} {x : Value} {g : Obj → List (Addr × Obj)} {Q : Value → Shared → Prop} (S : CS true s₀ h₀ env ρ Λ s) (U : ChgF l (lst ys k) Λ g) (hn : ys.size ≤ 16777215)
    (h : ∀ k' s', CS true s₀ h₀ env ρ (g (lst (ys.push x) k')) s' → Q .none s') : wpAny (model prog w) A (call (.builtin "list.append") [.ref l, x]) Q E s := by
  refine wpAny_list_append_plain ⟨k, S.atLed (U.to (lst ys k)).mem⟩ (fun h' hp hs => ?_) (by rw [sizeLine_eq]; (first | lia | omega))
  obtain ⟨k', e⟩ := hp
  have := S.chg (h' := h') (tk := s.toks) (U.to _) (fun c x hc q => hs.extBut c x hc q) e
  exact h k' _ this
end
end Fl

namespace Fl
open PySem PySem.W PySem.Calls PyProof.Rows

theorem CS.since {s₀ s₁ s : Shared} {h₀ : Heap} {env : Env} {ρ : Rho} {Λ : List (Addr × Obj)} (S : CS true s₁ h₀ env ρ Λ s) (e : ∃ h tk, s₁ = { s₀ with heap := h, toks := tk }) : CS true s₀ h₀ env ρ Λ s := by
  refine ⟨S.kind, ?_, S.base, (fun q => nomatch q), S.ns, S.cell, S.cells, S.apart, S.kinds, S.locs, S.nd, S.led, S.lnd⟩
  obtain ⟨h, tk, rfl⟩ := e
  obtain ⟨h', tk', rfl⟩ := S.same
  exact ⟨h', tk', rfl⟩

section
variable {prog : Program} {w : World} {A : Around} {E : Value → Shared → Prop} {s s₀ : Shared} {h₀ : Heap} {env : Env} {ρ ρ' : Rho} {Λ Λ' : List (Addr × Obj)} {b : Bool} {K : Frag}

/-- an object of a class of the text is made: its __init__ in a frame of its own -/
theorem makeK {Q : Value → Shared → Prop} {C f : Addr} {name qual : Str} {params : Arguments} {body : List Stmt} {scope : Scope} {dV kV doc pm cdv ct oc : Value} {an od : Option Addr} {osl : Array (Option Value)} {vals : List Value} (bnd : Value → List (Str × Value)) (ρ : Value → Rho)
    (G : Gr K s.heap) (hroom : A.depth + 1 < recursionLimit) (hm : makesIn K C = true) (hi : findIn K (.ref C) "__init__" = some (some (.ref f))) (hf : typeIn K (.ref f) = some (.type "function"))
    (ho : K.lookup f = some ⟨oc, od, .func (fnOf name qual params body scope dV kV doc pm an cdv ct), osl⟩) (hcd : codeIn K cdv qual = true)
    (hbind : ∀ v, bindArgs (fnOf name qual params body scope dV kV doc pm an cdv ct) ⟨v :: vals, []⟩ = pure (bnd v)) (hd : defOk scope = true) (hb1 : ∀ v, bindsOk scope (bnd v) = true) (hb2 : ∀ v, nodupS ((bnd v).map (·.1)) = true) (hρ : ∀ v, rho0 scope.names (bnd v) = ρ v)
    (h : ∀ x dx L s₁, s.heap.get? x = none → s.heap.get? dx = none → CS true s s.heap (envF qual scope L f cdv) (ρ (.ref x)) [(x, instObj C dx), (dx, dictOf [] 0)] s₁ →
      wpAny (model prog w) ((A.under (.builtin "type.__call__" ⟨.ref C :: vals, []⟩)).deeper (envF qual scope L f cdv)) (execs body (envF qual scope L f cdv)) (RetQ (fun v s' => v = .none ∧ Q (.ref x) s')) (OutE (model prog w) (A.under (.builtin "type.__call__" ⟨.ref C :: vals, []⟩)) (envF qual scope L f cdv) E) s₁) :
    wpAny (model prog w) A (call (.ref C) vals) Q E s := by
  unfold defOk at hd
  simp only [Bool.and_eq_true, Bool.not_eq_true'] at hd
  obtain ⟨⟨⟨h1, h2⟩, h3⟩, h4⟩ := hd
  have h4' : scope.kind = .function := by
    cases hk : scope.kind <;> first | rfl | (rw [hk] at h4; cases h4)
  have G' := G
  obtain ⟨hp, g, d, t, os⟩ := s
  have hX : K.In hp := G.X
  refine wpAny_call (make_core (makes_of hX hm) (looks_findIn hX hi) (fun self => bind_fn hX self hf) (.inl (by rfl)) ?_)
  have k1 : Sub hp ((hp.push emptyDict).push (instObj C hp.objs.size)) := fun a o e => Heap.get?_push_of_some _ (Heap.get?_push_of_some _ e)
  have sz : (hp.push emptyDict).objs.size = hp.objs.size + 1 := Heap.size_push _ _
  have n1 : hp.get? hp.objs.size = none := fresh_none (Nat.le_refl _)
  have n2 : hp.get? (hp.objs.size + 1) = none := fresh_none (Nat.le_succ _)
  have g1 : ((hp.push emptyDict).push (instObj C hp.objs.size)).get? (hp.objs.size + 1) = some (instObj C hp.objs.size) := by
    have := Heap.get?_push_size (hp.push emptyDict) (o := instObj C hp.objs.size) rfl
    rw [sz] at this; exact this
  have g2 : ((hp.push emptyDict).push (instObj C hp.objs.size)).get? hp.objs.size = some (dictOf [] 0) := Heap.get?_push_of_some _ (Heap.get?_push_size _ rfl)
  have GG : Gr K ((hp.push emptyDict).push (instObj C hp.objs.size)) := Gr.mono G' k1
  refine call_def (h₀ := hp) (Λ := [(hp.objs.size + 1, instObj C hp.objs.size), (hp.objs.size, dictOf [] 0)]) (fd := fnOf name qual params body scope dV kV doc pm an cdv ct) ?_ (GG.X _ _ ho) rfl GG.lim (codeRec_of GG.X hcd) rfl (hbind _) rfl (hb1 _) (nodupS_nodup (hb2 _)) (nodupS_nodup h1) (hρ _) k1 ?_ ?_ ?_ h2 h3 h4'
  · exact hroom
  · intro p hp'
    rcases List.mem_cons.mp hp' with rfl | hp'
    · exact ⟨g1, n2⟩
    · rw [List.mem_singleton.mp hp']; exact ⟨g2, n1⟩
  · simp
  · intro s₁ S
    have := h (hp.objs.size + 1) hp.objs.size _ s₁ n2 n1 (S.since ⟨_, t, rfl⟩)
    refine wpAny_mono this (fun fl s' q => ?_) fun e s' q => ?_
    · exact q
    · exact q
end
end Fl

namespace Fl
open PySem PySem.W PySem.Calls PyProof.Rows

/-- rows of a floor: at most twelve, of one length, at most twelve, of the four signs -/
structure Grid (rows : List Str) (wd : Nat) : Prop where
  high : rows.length ≤ 12
  wide : wd ≤ 12
  len : ∀ r ∈ rows, r.length = wd
  none : rows = [] → wd = 0
  sign : ∀ r ∈ rows, ∀ c ∈ r.cps.toList, c = 46 ∨ c = 45 ∨ c = 124 ∨ c = 35
/-- the sign at a place -/
def sg (rows : List Str) (wd : Nat) (p : Int) : Nat := (rows.getD (p / wd).toNat Str.empty).cps.getD (p % wd).toNat 0
def inB (rows : List Str) (wd : Nat) (p : Int) : Bool := decide (0 ≤ p) && decide (p < rows.length * wd)
def hasB (rows : List Str) (wd : Nat) (p : Int) : Bool := inB rows wd p && sg rows wd p != 35
def alongB (c : Nat) : Bool := c == 46 || c == 45
def acrossB (c : Nat) : Bool := c == 46 || c == 124
/-- what Floor.may reckons -/
def mayB (rows : List Str) (wd : Nat) (a c : Int) : Bool :=
  hasB rows wd a && hasB rows wd c &&
    (if max a c - min a c = 1 ∧ min a c / wd = max a c / wd then alongB (sg rows wd (min a c)) && alongB (sg rows wd (max a c))
     else if max a c - min a c = wd then acrossB (sg rows wd (min a c)) && acrossB (sg rows wd (max a c)) else false)
/-- what the laws reckon -/
def mayL (rows : List Str) (wd : Nat) (a c : Int) : Bool :=
  inB rows wd a && inB rows wd c &&
    (if a / wd = c / wd ∧ (a - c).natAbs = 1 then alongB (sg rows wd a) && alongB (sg rows wd c)
     else if a % wd = c % wd ∧ (a / wd - c / wd).natAbs = 1 then acrossB (sg rows wd a) && acrossB (sg rows wd c) else false)
def cellsL (rows : List Str) (wd : Nat) : List Int := ((List.range (rows.length * wd)).map fun (i : Nat) => (i : Int)).filter (hasB rows wd)

theorem Grid.at_ {rows : List Str} {wd : Nat} (g : Grid rows wd) {p : Int} (h0 : 0 ≤ p) (h1 : p < rows.length * wd) : 0 < wd ∧ 0 ≤ p / wd ∧ p / wd < rows.length ∧ 0 ≤ p % wd ∧ p % wd < wd := by
  have hw : 0 < (wd : Int) := by
    rcases Nat.eq_zero_or_pos wd with h | h
    · subst h; simp at h1; (first | lia | omega)
    · (first | lia | omega)
  refine ⟨by (first | lia | omega), Int.ediv_nonneg h0 (by (first | lia | omega)), ?_, Int.emod_nonneg _ (by (first | lia | omega)), Int.emod_lt_of_pos _ hw⟩
  exact Int.ediv_lt_of_lt_mul hw h1

/-- a floor of the program's own -/
structure FloorAt (C : Addr) (h : Heap) (fl l : Addr) (rows : List Str) (wd : Nat) (t1 t2 : Tok) : Prop where
  obj : ObjAt h C fl [(Str.ofString "rows", .ref l), (Str.ofString "high", .int rows.length t1), (Str.ofString "wide", .int wd t2)]
  texts : StrL h l rows
  grid : Grid rows wd
theorem FloorAt.mono {C : Addr} {h h' : Heap} {fl l : Addr} {rows : List Str} {wd : Nat} {t1 t2 : Tok} (F : FloorAt C h fl l rows wd t1 t2) (k : Sub h h') : FloorAt C h' fl l rows wd t1 t2 := ⟨F.obj.mono k, F.texts.mono k, F.grid⟩

theorem row_len {rows : List Str} {wd : Nat} (g : Grid rows wd) {k : Nat} (h : k < rows.length) : (rows.getD k Str.empty).length = wd := by
  have : rows.getD k Str.empty = rows[k] := by simp [List.getD, h]
  rw [this]; exact g.len _ (List.getElem_mem h)
end Fl
namespace Fl
open PySem
theorem one_eq (c d : Nat) : ((⟨#[c]⟩ : Str) == ⟨#[d]⟩) = (c == d) := by rw [Bool.eq_iff_iff]; simp
theorem one_ne (c d : Nat) : ((⟨#[c]⟩ : Str) != ⟨#[d]⟩) = (c != d) := by simp only [bne, one_eq]
end Fl

namespace Fl
open PySem PySem.W PySem.Calls PyProof.Rows PyProof.V PySem.Spec PySem.SeqAt

def nsStr (K : Frag) (x : Str) : Option Str := match nsIn K mainGlobals x with | some (some (.str y _)) => some y | _ => none
def nsInt (K : Frag) (x : Str) : Option Int := match nsIn K mainGlobals x with | some (some (.int y _)) => some y | _ => none
/-- a global name that holds a text, an int -/
structure GS (K : Frag) (x y : Str) : Prop where
  ns : nsStr K x = some y
  nd : (x == ("__debug__" : Str)) = false
structure GI (K : Frag) (x : Str) (y : Int) : Prop where
  ns : nsInt K x = some y
  nd : (x == ("__debug__" : Str)) = false
theorem GS.get {K : Frag} {x y : Str} (g : GS K x y) : ∃ t, nsIn K mainGlobals x = some (some (.str y t)) := by
  have := g.ns
  unfold nsStr at this
  split at this
  · rename_i a b e; cases this; exact ⟨_, e⟩
  · cases this
theorem GI.get {K : Frag} {x : Str} {y : Int} (g : GI K x y) : ∃ t, nsIn K mainGlobals x = some (some (.int y t)) := by
  have := g.ns
  unfold nsInt at this
  split at this
  · rename_i a b e; cases this; exact ⟨_, e⟩
  · cases this

section
variable {prog : Program} {w : World} {A : Around} {E : Value → Shared → Prop} {s s₀ : Shared} {h₀ : Heap} {env : Env} {ρ ρ' : Rho} {Λ Λ' : List (Addr × Obj)} {b : Bool} {K : Frag}
theorem n_gs {x y : Str} {pos : Pos} {Q : Value → Shared → Prop} (S : CS b s₀ h₀ env ρ Λ s) (G : Gr K h₀) (g : GS K x y) (hx : env.kindOf x = some .globalImplicit) (hg : env.globals = mainGlobals) (h : ∀ t, Q (.str y t) s) :
    wpAny (model prog w) A (eval (.Name x pos) env) Q E s := by
  obtain ⟨t, e⟩ := g.get
  exact n_glob S G e hx hg g.nd (h t)
theorem n_gi {x : Str} {y : Int} {pos : Pos} {Q : Value → Shared → Prop} (S : CS b s₀ h₀ env ρ Λ s) (G : Gr K h₀) (g : GI K x y) (hx : env.kindOf x = some .globalImplicit) (hg : env.globals = mainGlobals) (h : ∀ t, Q (.int y t) s) :
    wpAny (model prog w) A (eval (.Name x pos) env) Q E s := by
  obtain ⟨t, e⟩ := g.get
  exact n_glob S G e hx hg g.nd (h t)
theorem b_min {x y : Int} {t u : Tok} {Q : Value → Shared → Prop} (S : CS b s₀ h₀ env ρ Λ s) (hh : A.handled = none) (h : ∀ t s', CS b s₀ h₀ env ρ Λ s' → Q (.int (min x y) t) s') : wpAny (model prog w) A (call (.builtin "min") [.int x t, .int y u]) Q E s := by
  refine PySem.Flt.min_two_num hh (.int _ _) (.int _ _) fun h' tk hk => ?_
  have S' : CS b s₀ h₀ env ρ Λ { s with heap := h', toks := tk } := S.keeps ⟨_, _, rfl, hk⟩
  show Q (if decide (y < x) = true then _ else _) _
  by_cases q : y < x
  · rw [if_pos (decide_eq_true q), ← show min x y = y by (first | lia | omega)]; exact h _ _ S'
  · rw [if_neg (by simpa using q), ← show min x y = x by (first | lia | omega)]; exact h _ _ S'
theorem b_max {x y : Int} {t u : Tok} {Q : Value → Shared → Prop} (S : CS b s₀ h₀ env ρ Λ s) (hh : A.handled = none) (h : ∀ t s', CS b s₀ h₀ env ρ Λ s' → Q (.int (max x y) t) s') : wpAny (model prog w) A (call (.builtin "max") [.int x t, .int y u]) Q E s := by
  refine PySem.Flt.max_two_num hh (.int _ _) (.int _ _) fun h' tk hk => ?_
  have S' : CS b s₀ h₀ env ρ Λ { s with heap := h', toks := tk } := S.keeps ⟨_, _, rfl, hk⟩
  show Q (if decide (x < y) = true then _ else _) _
  by_cases q : x < y
  · rw [if_pos (decide_eq_true q), ← show max x y = y by (first | lia | omega)]; exact h _ _ S'
  · rw [if_neg (by simpa using q), ← show max x y = x by (first | lia | omega)]; exact h _ _ S'
theorem b_abs {x : Int} {t : Tok} {Q : Value → Shared → Prop} (S : CS b s₀ h₀ env ρ Λ s) (h : ∀ t s', CS b s₀ h₀ env ρ Λ s' → Q (.int x.natAbs t) s') : wpAny (model prog w) A (call (.builtin "abs") [.int x t]) Q E s := by
  refine PyProof.Rows.call_abs_int fun u tk => ?_
  have e : (if x < 0 then -x else x) = (x.natAbs : Int) := by (first | lia | omega)
  rw [e]
  exact h _ _ (S.tok _)
theorem y_int_int {x : Int} {t : Tok} {Q : Value → Shared → Prop} (h : Q (.bool true) s) : wpAny (model prog w) A (call (.builtin "isinstance") [.int x t, .type "int"]) Q E s := PySem.IsiPair.int_int h
theorem y_int_bool {x : Int} {t : Tok} {Q : Value → Shared → Prop} (S : CS b s₀ h₀ env ρ Λ s) (h : ∀ s', CS b s₀ h₀ env ρ Λ s' → Q (.bool false) s') : wpAny (model prog w) A (call (.builtin "isinstance") [.int x t, .type "bool"]) Q E s := PySem.IsiPair.int_bool (h _ (S.tok _))
theorem y_list_list {l : Addr} {ys : Array Value} {Q : Value → Shared → Prop} (hl : s.heap.IsList l ys) (h : Q (.bool true) s) : wpAny (model prog w) A (call (.builtin "isinstance") [.ref l, .type "list"]) Q E s := by
  obtain ⟨o, a, b, _⟩ := hl
  exact PySem.IsiPair.list_list a b h
/-- a method of a list -/
theorem m_list {l : Addr} {ys : Array Value} {k : Nat} {name : Str} {id : String} {pl : Sem Bool} {Q : Value × List Value → Shared → Prop} (hl : s.heap.get? l = some (lst ys k)) (slot : Slot "list" name id) (hty : typeOf (.builtin id) = pure (.type "method_descriptor"))
    (h : Q (.builtin id, [.ref l]) s) : wpAny (model prog w) A (getMethod (.ref l) name pl) Q E s :=
  getMethod_builtin ⟨_, hl, rfl⟩ PySem.F.plainAttrs_list slot hty (fun a e => by cases e; exact ⟨_, hl, rfl⟩) h
end
end Fl

namespace Fl
open PySem PySem.W PySem.Calls PyProof.Rows

def upTo (n : Nat) : List Int := (List.range n).map fun (i : Nat) => (i : Int)
def onI (q : Int → Bool) : Value → Bool
  | .int i _ => q i
  | _ => false
theorem ints_of_gets : ∀ (vs : List Value) (k : Nat), (∀ (j : Nat) (v : Value), vs[j]? = some v → ∃ t, v = .int ((k + j : Nat) : Int) t) → IntsAre vs ((List.range' k vs.length).map fun (i : Nat) => (i : Int))
  | [], _, _ => .nil
  | v :: r, k, h => by
    obtain ⟨t, rfl⟩ := h 0 v rfl
    refine .cons _ t (ints_of_gets r (k + 1) fun j v hv => ?_)
    obtain ⟨t, e⟩ := h (j + 1) v hv
    exact ⟨t, by rw [e]; congr 2; (first | lia | omega)⟩
theorem vs_range {vs : List Value} {n : Nat} (h : vs.length = n) (h2 : ∀ (j : Nat) (v : Value), vs[j]? = some v → ∃ t, v = .int (j : Int) t) : IntsAre vs (upTo n) := by
  have := ints_of_gets vs 0 fun j v hv => by obtain ⟨t, e⟩ := h2 j v hv; exact ⟨t, by rw [e]; congr 2; (first | lia | omega)⟩
  rw [h] at this
  rw [upTo, List.range_eq_range']; exact this
theorem vs_list {vs : List Value} {ys : Array Value} (h : vs.length = ys.size) (h2 : ∀ (j : Nat) (v : Value), vs[j]? = some v → ys[j]? = some v) : vs = ys.toList := by
  apply List.ext_getElem? 
  intro j
  cases e : vs[j]? with
  | some v => rw [Array.getElem?_toList]; exact (h2 j v e).symm
  | none =>
    rw [List.getElem?_eq_none_iff] at e
    symm
    rw [List.getElem?_eq_none_iff, Array.length_toList]; (first | lia | omega)
theorem filtI {q : Int → Bool} : ∀ {vs : List Value} {ns : List Int}, IntsAre vs ns → IntsAre (vs.filter (onI q)) (ns.filter q)
  | _, _, .nil => .nil
  | _, _, .cons n t r => by
    rw [List.filter_cons, List.filter_cons]
    show IntsAre (if q n = true then _ else _) _
    split
    · exact .cons n t (filtI r)
    · exact filtI r
theorem filt_true (vs : List Value) : vs.filter (fun _ => true) = vs := by simp
/-- what a comprehension's element is -/
def FII (f : Int → Int) (v y : Value) : Prop := ∃ i t u, v = .int i t ∧ y = .int (f i) u
def FS (P : Str → Prop) (_ y : Value) : Prop := ∃ x u, y = .str x u ∧ P x
theorem pairII {f : Int → Int} : ∀ {vs ys : List Value} {ns : List Int}, IntsAre vs ns → Paired (FII f) vs ys → IntsAre ys (ns.map f)
  | _, _, _, .nil, .nil => .nil
  | _, _, _, .cons n t r, .cons h p => by
    obtain ⟨i, t', u, e1, rfl⟩ := h
    cases e1
    exact .cons _ u (pairII r p)
theorem pairS {P : Str → Prop} : ∀ {vs ys : List Value}, Paired (FS P) vs ys → ∃ xs, StrsAre ys xs ∧ xs.length = vs.length ∧ ∀ x ∈ xs, P x
  | _, _, .nil => ⟨[], .nil, rfl, fun _ h => nomatch h⟩
  | _, _, .cons h p => by
    obtain ⟨x, u, rfl, hx⟩ := h
    obtain ⟨xs, a, b, c⟩ := pairS p
    refine ⟨x :: xs, .cons x u a, by simp [b], fun y hy => ?_⟩
    rcases List.mem_cons.mp hy with rfl | hy
    · exact hx
    · exact c y hy

/-- what is asked of a comprehension's block, by evaluation -/
def compOk (scope : Scope) (env : Env) (x : Str) (ys : List Str) : Bool :=
  scope.names.all (fun y => (decide (y.2 ≠ .free) || (env.cells.lookup y.1).isSome) && decide (y.2 ≠ .cell) && (decide (y.2 ≠ .local) || decide (scope.names.lookup y.1 = some .local))) && decide (scope.names.lookup x = some .local) &&
    (match scope.kind with | .function => true | _ => false) && ys.all (fun y => decide (scope.names.lookup y = some .free) && decide (env.kindOf y = some .cell)) && nodupS (x :: ys)
def Sel (ρc ρ : Rho) : Prop := ∀ y u, Look y u ρc → Look y u ρ
theorem Sel.nil {ρ : Rho} : Sel [] ρ := fun _ _ h => by cases h
theorem Sel.cons {x : Str} {v : Value} {ρc ρ : Rho} (h : Look x v ρ) (r : Sel ρc ρ) : Sel ((x, some v) :: ρc) ρ := fun y u q => by
  cases q with
  | head => exact h
  | tail q => exact r y u q
section
variable {prog : Program} {w : World} {A : Around} {E : Value → Shared → Prop} {s s₀ : Shared} {h₀ : Heap} {env : Env} {ρ ρ' ρc : Rho} {Λ Λ' : List (Addr × Obj)} {K : Frag}
theorem compOk_of {scope : Scope} {x : Str} {ys : List Str} (h : compOk scope env x ys = true) : (∀ n, (n, NameKind.free) ∈ scope.names → ∃ c, env.cells.lookup n = some c) ∧ (∀ y ∈ scope.names, y.2 ≠ .cell) ∧ scope.kind = .function ∧
    (∀ y ∈ scope.names, y.2 = .local → scope.names.lookup y.1 = some .local) ∧ scope.names.lookup x = some .local ∧ (∀ y ∈ ys, scope.names.lookup y = some .free ∧ env.kindOf y = some .cell) ∧ (x :: ys).Nodup := by
  unfold compOk at h
  simp only [Bool.and_eq_true, List.all_eq_true, Bool.or_eq_true, decide_eq_true_eq] at h
  obtain ⟨⟨⟨⟨h1, h2⟩, h3⟩, h4⟩, h5⟩ := h
  refine ⟨fun n hn => ?_, fun y hy => (h1 y hy).1.2, ?_, fun y hy q => ?_, h2, h4, nodupS_nodup h5⟩
  · rcases (h1 _ hn).1.1 with q | q
    · exact absurd rfl q
    · exact Option.isSome_iff_exists.mp q
  · cases hk : scope.kind <;> first | rfl | (rw [hk] at h3; cases h3)
  · rcases (h1 y hy).2 with e | e
    · exact absurd q e
    · exact e
theorem lc {elt iter : Expr} {x : Str} {px : Pos} {ifs : List Expr} {scope : Scope} {pos : Pos} {Q : Value → Shared → Prop} (ρc : Rho) (p : Value → Bool) (F : Value → Value → Prop)
    (_ : CS true s₀ h₀ env ρ Λ s) (hok : compOk scope env x (ρc.map (·.1)) = true) (hc2 : Sel ρc ρ)
    (h : wpAny (model prog w) A (eval iter env) (fun xv s₁ => wpAny (model prog w) A (pyIter xv) (CompK prog w A s₀ h₀ env ρ ρc Λ scope x ifs elt p F (fun D o => ∀ s', CS true s₀ h₀ env ρ ((D, o) :: Λ) s' → Q (.ref D) s')) E s₁) E s)
    (hs : ∀ x, foldedSetIterable iter env x = pure x) :
    wpAny (model prog w) A (eval (.ListComp elt [⟨.Name x px, iter, ifs, 0⟩] scope pos) env) Q E s := by
  obtain ⟨h1, h2, h3, h4, h5, h6, h7⟩ := compOk_of hok
  exact ListComp_CS ρc p F h1 h2 h3 h4 h5 h6 hc2 h7 h hs
theorem x_lc {elt iter : Expr} {x y : Str} {px py : Pos} {ifs : List Expr} {scope : Scope} {pos spos : Pos} {rest : List Stmt} {Q : Flow → Shared → Prop} (ρc : Rho) (p : Value → Bool) (F : Value → Value → Prop)
    (hsw : swapsWith (.ListComp elt [⟨.Name x px, iter, ifs, 0⟩] scope pos) (some (.Name y py)) spos.line env = pure true)
    (_ : CS true s₀ h₀ env ρ Λ s) (hok : compOk scope env x (ρc.map (·.1)) = true) (hy : env.kindOf y = some .local) (hek : env.scope.kind = .function) (hc2 : Sel ρc ρ)
    (h : wpAny (model prog w) A (eval iter env) (fun xv s₁ => wpAny (model prog w) A (pyIter xv) (CompK prog w A s₀ h₀ env ρ ρc Λ scope x ifs elt p F
      (fun D o => ∃ ρ', Put y (.ref D) ρ ρ' ∧ ∀ s', CS true s₀ h₀ env ρ' ((D, o) :: Λ) s' → wpAny (model prog w) A (execs rest env) Q E s')) E s₁) E s)
    (hs : ∀ x, foldedSetIterable iter env x = pure x) :
    wpAny (model prog w) A (execs (.Assign [.Name y py] (.ListComp elt [⟨.Name x px, iter, ifs, 0⟩] scope pos) spos :: rest) env) Q E s := by
  obtain ⟨h1, h2, h3, h4, h5, h6, h7⟩ := compOk_of hok
  exact wpAny_execs_cons (Assign_ListComp_CS ρc p F hsw h1 h2 h3 h4 h5 hy hek h6 hc2 h7 h hs)
theorem comp_it {scope : Scope} {x : Str} {ifs : List Expr} {elt : Expr} {p : Value → Bool} {F : Value → Value → Prop} {Fin : Addr → Obj → Prop} {it : Value} {n : Nat} {P : Nat → Value → Prop} (I : It prog w A s₀ h₀ env ρ Λ n P it s) (hn : n ≤ 16777216)
    (ht : ∀ C i v s₃ E', i < n → P i v → CS false s₃ h₀ (compEnvC scope (closGo env scope.names []) C env) ((x, some v) :: ρc) Λ s₃ →
      wpAny (model prog w) A (forIn ifs true fun c r => if r = true then do let ok ← isTrue c (compEnvC scope (closGo env scope.names []) C env) (eval c (compEnvC scope (closGo env scope.names []) C env)); pure (ForInStep.yield ok) else pure (ForInStep.yield r))
        (fun ok s₄ => ok = p v ∧ Keeps s₃ s₄) E' s₃)
    (he : ∀ C i v s₃ E', i < n → P i v → p v = true → CS false s₃ h₀ (compEnvC scope (closGo env scope.names []) C env) ((x, some v) :: ρc) Λ s₃ →
      wpAny (model prog w) A (eval elt (compEnvC scope (closGo env scope.names []) C env)) (fun y s₄ => F v y ∧ Keeps s₃ s₄) E' s₃)
    (fin : ∀ D k ys (vs : List Value), vs.length = n → (∀ j v, vs[j]? = some v → P j v) → Paired F (vs.filter p) ys.toList → s.heap.get? D = none → Fin D (lst ys k)) :
    CompK prog w A s₀ h₀ env ρ ρc Λ scope x ifs elt p F Fin it s := by
  obtain ⟨I, fp, wr, St, rfl, W, hst, hfp, hwr, hown, S⟩ := I
  have W' : Walks prog w A I fp wr n (fun i v => i < n ∧ P i v) St := ⟨W.sub, W.frame, fun i s Q E hi st hQ => W.item i s Q E hi st fun v h' tk hP => hQ v h' tk ⟨hi, hP⟩, W.done, W.self⟩
  exact ⟨I, fp, wr, n, (fun i v => i < n ∧ P i v), St, rfl, W', by rw [sizeLine_eq]; exact hn, hst, hfp, S, hwr, fun a ha => hown a (W.sub a ha), fun C i v s₃ E' h => ht C i v s₃ E' h.1 h.2, fun C i v s₃ E' h => he C i v s₃ E' h.1 h.2,
    fun D k ys vs h1 h2 => fin D k ys vs h1 fun j v hv => (h2 j v hv).2⟩
theorem tests0 {M : Model} {e : Env} {Q : Bool → Shared → Prop} (h : Q true s) :
    wpAny M A (forIn ([] : List Expr) true fun c r => if r = true then do let ok ← isTrue c e (eval c e); pure (ForInStep.yield ok) else pure (ForInStep.yield r)) Q E s := by
  rw [List.forIn_nil]; exact wpAny_pure h
theorem tests1 {M : Model} {c : Expr} {e : Env} {Q : Bool → Shared → Prop} (h : wpAny M A (isTrue c e (eval c e)) Q E s) :
    wpAny M A (forIn [c] true fun c r => if r = true then do let ok ← isTrue c e (eval c e); pure (ForInStep.yield ok) else pure (ForInStep.yield r)) Q E s := by
  rw [List.forIn_cons, if_pos rfl]
  refine wpAny_bind (wpAny_bind (wpAny_mono h (fun v s' q => wpAny_pure ?_) fun _ _ q => q))
  show wpAny _ _ (forIn ([] : List Expr) _ _) _ _ _
  rw [List.forIn_nil]; exact wpAny_pure q
theorem x_attr {o value : Expr} {attr : Str} {pos' pos : Pos} {rest : List Stmt} {M : Model} {Q : Flow → Shared → Prop}
    (h : wpAny M A (eval value env) (fun v s₁ => wpAny M A (eval o env) (fun ov s₂ => wpAny M A (setAttr ov attr v) (fun _ s₃ => wpAny M A (execs rest env) Q E s₃) E s₂) E s₁) E s)
    (hs : swapsWith value (some (.Attribute o attr pos')) pos.line env = pure false) : wpAny M A (execs (.Assign [.Attribute o attr pos'] value pos :: rest) env) Q E s :=
  wpAny_execs_cons (plainObj_wpAny_Assign_Attribute h hs)
end
theorem join_toList : ∀ (l : List Str), (Str.join (Str.ofString "") l).cps.toList = l.flatMap fun x => x.cps.toList
  | [] => rfl
  | [x] => by simp [Str.join]
  | x :: y :: r => by
    have h := join_toList (y :: r)
    rw [List.flatMap_cons, ← h]
    show (x.cps ++ (Str.ofString "").cps ++ (Str.join (Str.ofString "") (y :: r)).cps).toList = _
    rw [show (Str.ofString "").cps = #[] from rfl]
    simp
theorem joined_toList (l : List Str) : (Txt.join (Str.ofString "") l).cps.toList = l.flatMap fun x => x.cps.toList := by
  rw [← join_toList]
  show (Builtin.Str.glued (Str.ofString "") l).cps.toList = _
  rw [StrLaws.glued_eq_join]
end Fl

namespace Fl
open PySem PySem.W PySem.Calls PyProof.Rows

/-- what a call has made newly stands in h₁ -/
def Newer (s s' : Shared) (h₁ : Heap) : Prop := ∀ a o, s.heap.get? a = none → s'.heap.get? a = some o → h₁.get? a = some o
section
variable {prog : Program} {w : World} {A : Around} {E : Value → Shared → Prop} {s s' s₀ : Shared} {h₀ h₁ : Heap} {env : Env} {ρ ρ' ρc : Rho} {Λ Λ' : List (Addr × Obj)} {K : Frag}
theorem It.cs {n : Nat} {P : Nat → Value → Prop} {it : Value} (I : It prog w A s₀ h₀ env ρ Λ n P it s) : CS true s₀ h₀ env ρ Λ s := by
  obtain ⟨_, _, _, _, _, _, _, _, _, _, S⟩ := I; exact S
theorem CS.newAt (S : CS true s₀ h₀ env ρ Λ s) (k : Sub s₀.heap h₀) {a : Addr} {o : Obj} (hm : (a, o) ∈ Λ) (hn : Newer s₀ s h₁) : h₁.get? a = some o := hn _ _ (k.none ((S.led _ hm).2.2.2 rfl)) (S.led _ hm).1
theorem CS.adopt {D : Addr} {o : Obj} (S : CS true s₀ h₀ env ρ Λ s) (hk : Keeps s s') (hD : s.heap.get? D = none) (hD' : s'.heap.get? D = some o) : CS true s₀ h₀ env ρ ((D, o) :: Λ) s' := by
  obtain ⟨h', tk, rfl, k⟩ := hk
  exact S.new (wr := []) rfl (fun a o _ e => k a o e) (fun _ h => nomatch h) (fun _ h => nomatch h) hD hD'
theorem CS.gnew (S : CS true s₀ h₀ env ρ Λ s) (k : Keeps s s') : ∃ h₁, Sub h₀ h₁ ∧ CS true s₀ h₁ env ρ Λ s' ∧ Newer s s' h₁ := S.grow k
/-- behind a call: all that it left stands -/
theorem CS.outs (S : CS true s₀ h₀ env ρ Λ s) (k : Sub s₀.heap h₀) : Keeps s₀ s := (S.drop k).out
theorem Room.under {n k : Nat} {C : Addr} {vals : List Value} (r : Room A n) (h : k + 2 ≤ n) : Room (A.under (.builtin "type.__call__" ⟨.ref C :: vals, []⟩)) k := by
  have hd := depth_under_make A C vals
  have hd' : (Code.builtin "type.__call__" ⟨.ref C :: vals, []⟩).frames ≤ 1 := by
    first | exact Nat.le_of_eq (show _ = 1 from rfl) | (have h0 : (Code.builtin "type.__call__" ⟨.ref C :: vals, []⟩).frames = 0 := rfl; (first | lia | omega)) | (have h0 : (Code.builtin "type.__call__" ⟨.ref C :: vals, []⟩).frames = 0 := (by simp [Code.frames]); (first | lia | omega))
  have hu : (A.under (.builtin "type.__call__" ⟨.ref C :: vals, []⟩)).units ≤ A.units + 10 := by
    show A.units + Code.cUnits (.builtin "type.__call__" ⟨.ref C :: vals, []⟩) ≤ _
    have : Code.cUnits (.builtin "type.__call__" ⟨.ref C :: vals, []⟩) = 1 + 3 * (Code.builtin "type.__call__" ⟨.ref C :: vals, []⟩).frames := rfl
    (first | lia | omega)
  refine ⟨?_, ?_, r.handled⟩
  · have := r.depth; (first | lia | omega)
  · have := r.units; (first | lia | omega)
theorem x_e {e : Expr} {pos : Pos} {rest : List Stmt} {Q : Flow → Shared → Prop} (h : wpAny (model prog w) A (eval e env) (fun _ s' => wpAny (model prog w) A (execs rest env) Q E s') E s)
    (hi : interactive env = false) (hs : swapsWith e none pos.line env = pure false) : wpAny (model prog w) A (execs (.Expr e pos :: rest) env) Q E s := wpAny_execs_cons (wpAny_Expr_any h hi hs)
end
end Fl

namespace Fl
open PySem PySem.W PySem.Calls PyProof.Rows

section
variable {prog : Program} {w : World} {A : Around} {E : Value → Shared → Prop} {s s₀ : Shared} {h₀ : Heap} {env : Env} {ρ : Rho} {Λ : List (Addr × Obj)}
/-- a statement that always goes on, by what holds behind it -/
theorem x_cutS {st : Stmt} {rest : List Stmt} {Q : Flow → Shared → Prop} (_ : CS true s₀ h₀ env ρ Λ s) (P : Rho → List (Addr × Obj) → Prop)
    (h1 : ∀ Q' : Flow → Shared → Prop, (∀ ρ' Λ' s', P ρ' Λ' → CS true s₀ h₀ env ρ' Λ' s' → Q' .next s') → wpAny (model prog w) A (execs [st] env) Q' E s)
    (h2 : ∀ ρ' Λ' s', P ρ' Λ' → CS true s₀ h₀ env ρ' Λ' s' → wpAny (model prog w) A (execs rest env) Q E s') : wpAny (model prog w) A (execs (st :: rest) env) Q E s :=
  x_cut (fun s' => ∃ ρ' Λ', P ρ' Λ' ∧ CS true s₀ h₀ env ρ' Λ' s') (x_one (h1 _ fun ρ' Λ' s' a b => ⟨rfl, ρ', Λ', a, b⟩)) fun s' ⟨ρ', Λ', a, b⟩ => h2 ρ' Λ' s' a b
end

theorem test_lastE {M : Model} {A : Around} {E : Value → Shared → Prop} {s : Shared} {env : Env} {pos : Pos} {a : Value} {op : CmpOp} {r : Sem Value} {Q : Bool → Shared → Prop}
    (h : wpAny M A r (fun b s₁ => wpAny M A (compareOp op a b) (fun c s₂ => wpAny M A (truthy c) Q E s₂) E s₁) E s) : wpAny M A (testChain pos a [op] (r :: evalEach [] env)) Q E s := test_last h
/-- as callP, for the code of a call -/
theorem callC {prog : Program} {w : World} {A : Around} {s : Shared} {K : Frag} {R : Result → Shared → Prop} {f : Addr} {name qual : Str} {params : Arguments} {body : List Stmt} {scope : Scope} {dV kV doc pm cdv ct oc : Value} {an od : Option Addr} {osl : Array (Option Value)} {vals : List Value} {binds : List (Str × Value)} (ρ : Rho)
    (G : Gr K s.heap) (hroom : A.depth < recursionLimit)
    (ho : K.lookup f = some ⟨oc, od, .func (fnOf name qual params body scope dV kV doc pm an cdv ct), osl⟩) (hcd : codeIn K cdv qual = true)
    (hbind : bindArgs (fnOf name qual params body scope dV kV doc pm an cdv ct) ⟨vals, []⟩ = pure binds) (hd : defOk scope = true) (hb1 : bindsOk scope binds = true) (hb2 : nodupS (binds.map (·.1)) = true) (hρ : rho0 scope.names binds = ρ)
    (h : ∀ L s₁, CS true s s.heap (envF qual scope L f cdv) ρ [] s₁ →
      wpAny (model prog w) (A.deeper (envF qual scope L f cdv)) (execs body (envF qual scope L f cdv)) (RetQ fun v s' => R (.ok (.ret v)) s') (OutE (model prog w) A (envF qual scope L f cdv) fun e s' => R (.error e) s') s₁) :
    codeAny (model prog w) A (.call (.ref f) ⟨vals, []⟩) R s := by
  unfold defOk at hd
  simp only [Bool.and_eq_true, Bool.not_eq_true'] at hd
  obtain ⟨⟨⟨h1, h2⟩, h3⟩, h4⟩ := hd
  have h4' : scope.kind = .function := by
    cases hk : scope.kind <;> first | rfl | (rw [hk] at h4; cases h4)
  exact call_def (Λ := []) (fd := fnOf name qual params body scope dV kV doc pm an cdv ct) hroom (G.X _ _ ho) rfl G.lim (codeRec_of G.X hcd) rfl hbind rfl hb1 (nodupS_nodup hb2) (nodupS_nodup h1) hρ (Sub.refl _) (fun _ h => nomatch h) List.nodup_nil (h _) h2 h3 h4'
def four (c : Nat) : Prop := c = 46 ∨ c = 45 ∨ c = 124 ∨ c = 35
theorem join_signs (xs : List Str) (h : ∀ x ∈ xs, ∃ c, x = ⟨#[c]⟩ ∧ four c) : (Txt.join (Str.ofString "") xs).length = xs.length ∧ ∀ c ∈ (Txt.join (Str.ofString "") xs).cps.toList, four c := by
  have e := joined_toList xs
  have h1 : (xs.flatMap fun x => x.cps.toList).length = xs.length ∧ ∀ c ∈ (xs.flatMap fun x => x.cps.toList), four c := by
    clear e
    induction xs with
    | nil => exact ⟨rfl, fun _ h => nomatch h⟩
    | cons x r ih =>
      obtain ⟨c, rfl, hc⟩ := h x (List.mem_cons_self ..)
      obtain ⟨i1, i2⟩ := ih fun y hy => h y (List.mem_cons_of_mem _ hy)
      rw [List.flatMap_cons]
      refine ⟨by simp [i1] , fun d hd => ?_⟩
      rcases List.mem_append.mp hd with q | q
      · rw [show d = c by simpa using q]; exact hc
      · exact i2 d q
  rw [← e] at h1
  refine ⟨?_, h1.2⟩
  rw [← h1.1]
  exact Array.length_toList.symm

/-- a place in the rows joined -/
theorem flat_get {wd : Nat} : ∀ (rows : List (List Nat)) (p : Nat), (∀ r ∈ rows, r.length = wd) → 0 < wd → (rows.flatMap id)[p]?.getD 0 = ((rows[p / wd]?).getD [])[p % wd]?.getD 0
  | [], p, _, _ => by simp
  | r :: rs, p, h, hw => by
    have hr := h r (List.mem_cons_self ..)
    rw [List.flatMap_cons, id, List.getElem?_append]
    by_cases hp : p < wd
    · rw [if_pos (by (first | lia | omega)), Nat.div_eq_of_lt hp, Nat.mod_eq_of_lt hp]; rfl
    · rw [if_neg (by (first | lia | omega)), hr, flat_get rs (p - wd) (fun x hx => h x (List.mem_cons_of_mem _ hx)) hw]
      have e1 : p / wd = (p - wd) / wd + 1 := by
        rw [Nat.div_eq p wd, if_pos ⟨hw, by (first | lia | omega)⟩]
      have e2 : p % wd = (p - wd) % wd := by rw [Nat.mod_eq_sub_mod (by (first | lia | omega))]
      rw [e1, e2]; simp
theorem joined_get {rows : List Str} {wd : Nat} (g : Grid rows wd) (p : Nat) (hw : 0 < wd) : (Txt.join (Str.ofString "") rows).cps.getD p 0 = sg rows wd p := by
  have e := joined_toList rows
  have e' : (rows.flatMap fun x => x.cps.toList) = (rows.map fun x => x.cps.toList).flatMap id := by rw [List.flatMap_map]; rfl
  have : (Txt.join (Str.ofString "") rows).cps.getD p 0 = (Txt.join (Str.ofString "") rows).cps.toList[p]?.getD 0 := by
    simp [Array.getD_eq_getD_getElem?]
  rw [this, e, e', flat_get _ _ (wd := wd) (fun r hr => ?_) hw]
  · unfold sg
    have h1 : ((p : Int) / (wd : Int)).toNat = p / wd := by rw [← Int.natCast_ediv, Int.toNat_natCast]
    have h2 : ((p : Int) % (wd : Int)).toNat = p % wd := by rw [← Int.natCast_emod, Int.toNat_natCast]
    rw [h1, h2, List.getElem?_map]
    cases q : rows[p / wd]? with
    | none => simp [List.getD, q, Str.empty]
    | some r => simp [List.getD, q, Array.getD_eq_getD_getElem?]
  · obtain ⟨x, hx, rfl⟩ := List.mem_map.mp hr
    rw [Array.length_toList]; exact g.len x hx
theorem joined_len {rows : List Str} {wd : Nat} (g : Grid rows wd) : (Txt.join (Str.ofString "") rows).length = rows.length * wd := by
  have e := joined_toList rows
  have hl := g.len
  have : (rows.flatMap fun x => x.cps.toList).length = rows.length * wd := by
    clear e g
    induction rows with
    | nil => simp
    | cons x r ih =>
      have := hl x (List.mem_cons_self ..)
      have h2 : x.cps.toList.length = wd := by rw [Array.length_toList]; exact this
      rw [List.flatMap_cons, List.length_append, ih fun y hy => hl y (List.mem_cons_of_mem _ hy), h2, List.length_cons, Nat.succ_mul]; (first | lia | omega)
  rw [← e, Array.length_toList] at this
  exact this
theorem cells_mem {rows : List Str} {wd : Nat} (p : Int) : decide (p ∈ cellsL rows wd) = hasB rows wd p := by
  rw [Bool.eq_iff_iff, decide_eq_true_iff]
  unfold cellsL
  rw [List.mem_filter]
  refine ⟨fun h => h.2, fun h => ⟨?_, h⟩⟩
  have : 0 ≤ p ∧ p < rows.length * wd := by
    simp [hasB, inB] at h; exact h.1
  have e : ((rows.length : Int) * wd) = ((rows.length * wd : Nat) : Int) := by rw [Int.natCast_mul]
  exact List.mem_map.mpr ⟨p.toNat, List.mem_range.mpr (by (first | lia | omega)), by (first | lia | omega)⟩

theorem div_step {a c w : Int} (hw : 0 < w) : c - a = w ↔ (a % w = c % w ∧ c / w - a / w = 1) := by
  have e1 := Int.emod_add_mul_ediv a w
  have e2 := Int.emod_add_mul_ediv c w
  constructor
  · intro h
    have : c = a + 1 * w := by (first | lia | omega)
    subst this
    rw [Int.add_mul_emod_self_right, Int.add_mul_ediv_right a 1 (by (first | lia | omega))]
    exact ⟨rfl, by (first | lia | omega)⟩
  · rintro ⟨h1, h2⟩
    have h3 : c / w = a / w + 1 := by (first | lia | omega)
    rw [h3, Int.mul_add, Int.mul_one] at e2
    (first | lia | omega)
theorem may_eq {rows : List Str} {wd : Nat} (g : Grid rows wd) (a c : Int) : mayB rows wd a c = mayL rows wd a c := by
  unfold mayB mayL
  by_cases h1 : inB rows wd a = true
  · by_cases h2 : inB rows wd c = true
    · have g1 : 0 ≤ a ∧ a < rows.length * wd := by simpa [inB] using h1
      have g2 : 0 ≤ c ∧ c < rows.length * wd := by simpa [inB] using h2
      obtain ⟨hw, _⟩ := g.at_ g1.1 g1.2
      have hw2 := g.wide
      simp only [hasB, h1, h2, Bool.true_and]
      have k1 : (max a c - min a c = 1 ∧ min a c / wd = max a c / wd) ↔ (a / wd = c / wd ∧ (a - c).natAbs = 1) := by
        rcases Int.le_total a c with q | q
        · rw [Int.max_eq_right q, Int.min_eq_left q]; (first | lia | omega)
        · rw [Int.max_eq_left q, Int.min_eq_right q]; (first | lia | omega)
      have k2 : (max a c - min a c = wd) ↔ (a % wd = c % wd ∧ (a / wd - c / wd).natAbs = 1) := by
        have d1 := div_step (a := a) (c := c) (w := wd) (by (first | lia | omega))
        have d2 := div_step (a := c) (c := a) (w := wd) (by (first | lia | omega))
        have e : (a / (wd : Int) - c / (wd : Int)).natAbs = 1 ↔ (c / (wd : Int) - a / (wd : Int) = 1 ∨ a / (wd : Int) - c / (wd : Int) = 1) := by (first | lia | omega)
        rw [e]
        have m : max a c - min a c = wd ↔ (c - a = wd ∨ a - c = wd) := by (first | lia | omega)
        rw [m, d1, d2]
        exact ⟨fun h => h.elim (fun h => ⟨h.1, .inl h.2⟩) (fun h => ⟨h.1.symm, .inr h.2⟩), fun h => h.2.elim (fun q => .inl ⟨h.1, q⟩) (fun q => .inr ⟨h.1.symm, q⟩)⟩
      have sw : ∀ f : Nat → Bool, (f (sg rows wd (min a c)) && f (sg rows wd (max a c))) = (f (sg rows wd a) && f (sg rows wd c)) := fun f => by
        rcases Int.le_total a c with q | q
        · rw [Int.max_eq_right q, Int.min_eq_left q]
        · rw [Int.max_eq_left q, Int.min_eq_right q, Bool.and_comm]
      have al : ∀ c, alongB c = true → (c != 35) = true := fun c h => by simp [alongB] at h; simp; (first | lia | omega)
      have ac : ∀ c, acrossB c = true → (c != 35) = true := fun c h => by simp [acrossB] at h; simp; (first | lia | omega)
      rw [sw alongB, sw acrossB]
      by_cases q1 : (a / wd = c / wd ∧ (a - c).natAbs = 1)
      · rw [if_pos q1, if_pos (k1.mpr q1)]
        cases e1 : alongB (sg rows wd a) <;> cases e2 : alongB (sg rows wd c) <;> simp_all
      · rw [if_neg q1, if_neg (fun q => q1 (k1.mp q))]
        by_cases q2 : (a % wd = c % wd ∧ (a / wd - c / wd).natAbs = 1)
        · rw [if_pos q2, if_pos (k2.mpr q2)]
          cases e1 : acrossB (sg rows wd a) <;> cases e2 : acrossB (sg rows wd c) <;> simp_all
        · rw [if_neg q2, if_neg (fun q => q2 (k2.mp q))]; simp
    · have h2' : inB rows wd c = false := by simpa using h2
      simp [hasB, h2']
  · have h1' : inB rows wd a = false := by simpa using h1
    simp [hasB, h1']
end Fl

namespace Fl
open PySem PySem.W PySem.Calls PyProof.Rows PyProof.V PySem.Spec Builtin Builtin.ObjectAttr Builtin.Getset_descriptor

section
variable {prog : Program} {w : World} {A : Around} {E : Value → Shared → Prop} {s : Shared} {K : Frag} {e C D : Addr}
end
end Fl

namespace Fl
open PySem PySem.W PySem.Calls PyProof.Rows

section
variable {M : Model} {prog : Program} {w : World} {A : Around} {E : Value → Shared → Prop} {s s' s₀ : Shared} {h₀ B : Heap} {env : Env} {ρ : Rho} {Λ : List (Addr × Obj)} {outer : List Env} {e C : Addr} {K : Frag}
end
end Fl

namespace Fl
open PySem PySem.W PySem.Calls PyProof.Rows

section
variable {M : Model} {prog : Program} {w : World} {A : Around} {E : Value → Shared → Prop} {s s' s₀ : Shared} {h₀ B : Heap} {env : Env} {ρ : Rho} {Λ : List (Addr × Obj)} {outer : List Env} {e C D : Addr} {K : Frag}
end
end Fl

namespace Fl
open PySem PySem.W PySem.Calls PyProof.Rows

section
variable {prog : Program} {w : World} {A : Around} {E : Value → Shared → Prop} {s s₀ : Shared} {h₀ : Heap} {env : Env} {ρ ρ' : Rho} {Λ Λ' : List (Addr × Obj)} {b : Bool} {K : Frag} {e C D : Addr}
end
end Fl

namespace Fl
open PySem PySem.W PySem.Calls PyProof.Rows

theorem hasB_in {rows : List Str} {wd : Nat} {p : Int} (h : hasB rows wd p = true) : 0 ≤ p ∧ p < rows.length * wd := by
  simp [hasB, inB] at h
  exact h.1
def shadeN (wd : Nat) (p : Int) : Int := if wd = 0 then 0 else (p / wd + p % wd) % 2
/-- the candidates beside a cell, and what Floor.beside gathers of them -/
def nearL (wd : Nat) (p : Int) : List Int := [p - wd, p - 1, p + 1, p + wd]
def gath (m : Int → Bool) (xs : List Int) : List Int := xs.foldl (fun acc y => if y ∉ acc ∧ m y = true then acc ++ [y] else acc) []
theorem gath_snoc (m : Int → Bool) (xs : List Int) (y : Int) : gath m (xs ++ [y]) = if y ∉ gath m xs ∧ m y = true then gath m xs ++ [y] else gath m xs := by
  unfold gath; rw [List.foldl_append]; rfl
def besideL (rows : List Str) (wd : Nat) (p : Int) : List Int := gath (mayB rows wd p) (nearL wd p)
def lnearL (wd : Nat) (p : Int) : List Int := if wd > 1 then nearL wd p else [p - 1, p + 1]
theorem beside_eq {rows : List Str} {wd : Nat} (g : Grid rows wd) {p : Int} (h : hasB rows wd p = true) : besideL rows wd p = (lnearL wd p).filter (mayL rows wd p) := by
  obtain ⟨h0, h1⟩ := hasB_in h
  obtain ⟨hw, _⟩ := g.at_ h0 h1
  have hm : mayL rows wd p = mayB rows wd p := funext fun c => (may_eq g p c).symm
  rw [hm]
  unfold besideL gath lnearL nearL
  by_cases h2 : wd > 1
  · rw [if_pos h2]
    have n1 : ¬ (p - 1 = p - (wd : Int)) := by (first | lia | omega)
    have n2 : ¬ (p + 1 = p - (wd : Int)) := by (first | lia | omega)
    have n3 : ¬ (p + 1 = p - 1) := by (first | lia | omega)
    have n4 : ¬ (p + (wd : Int) = p - (wd : Int)) := by (first | lia | omega)
    have n5 : ¬ (p + (wd : Int) = p - 1) := by (first | lia | omega)
    have n6 : ¬ (p + (wd : Int) = p + 1) := by (first | lia | omega)
    simp only [List.foldl_cons, List.foldl_nil, List.filter_cons, List.filter_nil]
    generalize mayB rows wd p (p - wd) = b1
    generalize mayB rows wd p (p - 1) = b2
    generalize mayB rows wd p (p + 1) = b3
    generalize mayB rows wd p (p + wd) = b4
    generalize p - (wd : Int) = x1 at *
    generalize p + (wd : Int) = x4 at *
    generalize p - 1 = x2 at *
    generalize p + 1 = x3 at *
    cases b1 <;> cases b2 <;> cases b3 <;> cases b4 <;> simp [n1, n2, n3, n4, n5, n6]
  · have e : wd = 1 := by (first | lia | omega)
    subst e
    rw [if_neg (by (first | lia | omega))]
    simp only [List.foldl_cons, List.foldl_nil, List.filter_cons, List.filter_nil, Int.natCast_one]
    have n3 : ¬ (p + 1 = p - 1) := by (first | lia | omega)
    generalize mayB rows 1 p (p - 1) = b2
    generalize mayB rows 1 p (p + 1) = b3
    generalize p - 1 = x2 at *
    generalize p + 1 = x3 at *
    cases b2 <;> cases b3 <;> simp [n3]
theorem mayB_symm (rows : List Str) (wd : Nat) (a c : Int) : mayB rows wd a c = mayB rows wd c a := by
  rw [mayB, mayB, Int.max_comm, Int.min_comm, Bool.and_comm (hasB rows wd c)]
theorem mayB_has {rows : List Str} {wd : Nat} {a c : Int} (h : mayB rows wd a c = true) : hasB rows wd a = true ∧ hasB rows wd c = true := by
  unfold mayB at h
  simp only [Bool.and_eq_true] at h
  exact h.1
/-- two places of a slab are one apart, or a row -/
theorem mayB_near {rows : List Str} {wd : Nat} {a c : Int} (h : mayB rows wd a c = true) : (max a c - min a c = 1 ∧ min a c / wd = max a c / wd) ∨ max a c - min a c = wd := by
  unfold mayB at h
  simp only [Bool.and_eq_true] at h
  obtain ⟨_, h⟩ := h
  split at h
  · rename_i q; exact .inl q
  · split at h
    · rename_i q; exact .inr q
    · cases h
theorem mem_gath {m : Int → Bool} {c : Int} : ∀ (xs : List Int), c ∈ gath m xs ↔ (c ∈ xs ∧ m c = true) := by
  intro xs
  suffices h : ∀ (acc : List Int), c ∈ xs.foldl (fun acc y => if y ∉ acc ∧ m y = true then acc ++ [y] else acc) acc ↔ c ∈ acc ∨ (c ∈ xs ∧ m c = true) by
    have := h []; simpa [gath] using this
  induction xs with
  | nil => intro acc; simp
  | cons x r ih =>
    intro acc
    rw [List.foldl_cons, ih]
    by_cases q : x ∉ acc ∧ m x = true
    · rw [if_pos q]
      constructor
      · rintro (h | h)
        · rcases List.mem_append.mp h with h | h
          · exact .inl h
          · rw [List.mem_singleton] at h; subst h; exact .inr ⟨List.mem_cons_self .., q.2⟩
        · exact .inr ⟨List.mem_cons_of_mem _ h.1, h.2⟩
      · rintro (h | ⟨h, h2⟩)
        · exact .inl (List.mem_append.mpr (.inl h))
        · rcases List.mem_cons.mp h with rfl | h
          · exact .inl (List.mem_append.mpr (.inr (List.mem_singleton.mpr rfl)))
          · exact .inr ⟨h, h2⟩
    · rw [if_neg q]
      constructor
      · rintro (h | h)
        · exact .inl h
        · exact .inr ⟨List.mem_cons_of_mem _ h.1, h.2⟩
      · rintro (h | ⟨h, h2⟩)
        · exact .inl h
        · rcases List.mem_cons.mp h with rfl | h
          · refine .inl ?_
            by_cases z : c ∈ acc
            · exact z
            · exact absurd ⟨z, h2⟩ q
          · exact .inr ⟨h, h2⟩
theorem mem_beside {rows : List Str} {wd : Nat} {a c : Int} : c ∈ besideL rows wd a ↔ mayB rows wd a c = true := by
  unfold besideL
  rw [mem_gath]
  refine ⟨fun h => h.2, fun h => ⟨?_, h⟩⟩
  have := mayB_near h
  unfold nearL
  simp only [List.mem_cons, List.mem_nil_iff, or_false]
  rcases Int.le_total a c with q | q
  · rw [Int.max_eq_right q, Int.min_eq_left q] at this; (first | lia | omega)
  · rw [Int.max_eq_left q, Int.min_eq_right q] at this; (first | lia | omega)
theorem gath_len (m : Int → Bool) (xs : List Int) : (gath m xs).length ≤ xs.length := by
  suffices h : ∀ (acc : List Int), (xs.foldl (fun acc y => if y ∉ acc ∧ m y = true then acc ++ [y] else acc) acc).length ≤ acc.length + xs.length by
    have := h []; simpa [gath] using this
  induction xs with
  | nil => intro acc; simp
  | cons x r ih =>
    intro acc
    rw [List.foldl_cons]
    refine Nat.le_trans (ih _) ?_
    split
    · simp <;> (first | lia | omega)
    · simp <;> (first | lia | omega)
theorem beside_len (rows : List Str) (wd : Nat) (p : Int) : (besideL rows wd p).length ≤ 4 := gath_len _ _
theorem shade_ne {rows : List Str} {wd : Nat} (g : Grid rows wd) {a c : Int} (h : mayB rows wd a c = true) : shadeN wd a ≠ shadeN wd c := by
  have h1 := hasB_in (mayB_has h).1
  have h2 := hasB_in (mayB_has h).2
  obtain ⟨hw, _⟩ := g.at_ h1.1 h1.2
  have hw2 := g.wide
  have n := mayB_near h
  unfold shadeN
  rw [if_neg (by (first | lia | omega)), if_neg (by (first | lia | omega))]
  have key : ∀ x y : Int, ((y - x = 1 ∧ x / wd = y / wd) ∨ y - x = wd) → (x / wd + x % wd) % 2 ≠ (y / wd + y % wd) % 2 := by
    intro x y h
    rcases h with ⟨h1, h2⟩ | h
    · have e1 := Int.emod_add_mul_ediv x wd
      have e2 := Int.emod_add_mul_ediv y wd
      rw [h2] at e1 ⊢
      (first | lia | omega)
    · obtain ⟨h1, h2⟩ := (div_step (by (first | lia | omega))).mp h
      (first | lia | omega)
  rcases Int.le_total a c with q | q
  · rw [Int.max_eq_right q, Int.min_eq_left q] at n
    exact key a c n
  · rw [Int.max_eq_left q, Int.min_eq_right q] at n
    exact fun e => key c a n e.symm

section
variable {M : Model} {prog : Program} {w : World} {A : Around} {E : Value → Shared → Prop} {s s' s₀ : Shared} {h₀ B : Heap} {env : Env} {ρ : Rho} {Λ Λ₀ Λ' Λ₂ : List (Addr × Obj)} {outer : List Env} {e C : Addr} {K : Frag}
theorem ints_arr {vs : List Value} {ns : List Int} {i : Nat} {v : Value} (hv : vs.toArray[i]? = some v) (hi : IntsAre vs ns) : ∃ n t, v = .int n t ∧ ns[i]? = some n := hi.at i v (by simpa using hv)
theorem CS.one {p q : Addr × Obj} (S : CS true s₀ h₀ env ρ (p :: q :: Λ) s) : CS true s₀ h₀ env ρ (p :: Λ) s := by
  have := S.lnd
  rw [List.map_cons, List.map_cons, List.nodup_cons, List.nodup_cons] at this
  refine S.forget (fun x hx => ?_) ?_
  · rcases List.mem_cons.mp hx with rfl | hx
    · exact List.mem_cons_self ..
    · exact List.mem_cons_of_mem _ (List.mem_cons_of_mem _ hx)
  · rw [List.map_cons, List.nodup_cons]
    exact ⟨fun z => this.1 (List.mem_cons_of_mem _ z), this.2.2⟩
end
end Fl

namespace Fl
open PySem PySem.W PySem.Calls PyProof.Rows

section
variable {prog : Program} {w : World} {A : Around} {E : Value → Shared → Prop} {s s₀ : Shared} {h₀ : Heap} {env : Env} {ρ ρ' : Rho} {Λ Λ' : List (Addr × Obj)} {b : Bool} {K : Frag}

-- slices
end
section
variable {prog : Program} {w : World} {A : Around} {E : Value → Shared → Prop} {s s₀ : Shared} {h₀ : Heap} {env : Env} {ρ ρ' : Rho} {Λ Λ' : List (Addr × Obj)} {b : Bool} {K : Frag}
end
end Fl

namespace Fl
open PySem PySem.W PySem.Calls PyProof.Rows

/-- a dict by ints, as a list of pairs -/
abbrev Mp (α : Type) := List (Int × α)
def mget {α : Type} (m : Mp α) (k : Int) : Option α := (m.find? fun p => p.1 = k).map (·.2)
def mput {α : Type} (m : Mp α) (k : Int) (a : α) : Mp α := if m.any (fun p => p.1 = k) then m.map (fun p => if p.1 = k then (p.1, a) else p) else m ++ [(k, a)]
def mdel {α : Type} (m : Mp α) (k : Int) : Mp α := m.filter fun p => decide (p.1 ≠ k)
inductive Prs {α : Type} (Rv : α → Value → Prop) : List (Int × Value) → Mp α → Prop
  | nil : Prs Rv [] []
  | cons {k a x r m} : Rv a x → Prs Rv r m → Prs Rv ((k, x) :: r) ((k, a) :: m)
section
variable {α : Type} {Rv : α → Value → Prop} {kvs : List (Int × Value)} {m : Mp α}
theorem Prs.keys (h : Prs Rv kvs m) : kvs.map (·.1) = m.map (·.1) := by
  induction h with
  | nil => rfl
  | cons _ _ ih => simp only [List.map_cons, ih]
theorem Prs.length (h : Prs Rv kvs m) : kvs.length = m.length := by
  induction h with
  | nil => rfl
  | cons _ _ ih => simp only [List.length_cons, ih]
theorem Prs.get (h : Prs Rv kvs m) (k : Int) : (∃ x a, valueAt kvs k = some x ∧ mget m k = some a ∧ Rv a x) ∨ (valueAt kvs k = none ∧ mget m k = none) := by
  induction h with
  | nil => exact .inr ⟨rfl, rfl⟩
  | @cons k' a x r m' hx _ ih =>
    by_cases q : k' = k
    · exact .inl ⟨x, a, by simp [valueAt, q], by simp [mget, q], hx⟩
    · simpa [valueAt, mget, q] using ih
theorem Prs.isSome (h : Prs Rv kvs m) (k : Int) : (valueAt kvs k).isSome = (mget m k).isSome := by
  rcases h.get k with ⟨x, a, e1, e2, _⟩ | ⟨e1, e2⟩ <;> rw [e1, e2] <;> rfl
theorem Prs.any (h : Prs Rv kvs m) (k : Int) : (kvs.any fun p => p.1 = k) = (m.any fun p => p.1 = k) := by
  induction h with
  | nil => rfl
  | cons _ _ ih => simp only [List.any_cons, ih]
theorem Prs.append {kvs' : List (Int × Value)} {m' : Mp α} (h : Prs Rv kvs m) (h' : Prs Rv kvs' m') : Prs Rv (kvs ++ kvs') (m ++ m') := by
  induction h with
  | nil => exact h'
  | cons hx _ ih => exact .cons hx ih
theorem Prs.put (h : Prs Rv kvs m) (k : Int) {a : α} {x : Value} (hx : Rv a x) : Prs Rv (stored kvs k x) (mput m k a) := by
  unfold stored mput
  rw [h.any k]
  split
  · rename_i hq
    clear hq
    induction h with
    | nil => exact .nil
    | cons hy _ ih =>
      simp only [List.map_cons]
      split
      · exact .cons hx ih
      · exact .cons hy ih
  · exact h.append (.cons hx .nil)
theorem Prs.del (h : Prs Rv kvs m) (k : Int) : Prs Rv (PySem.without kvs k) (mdel m k) := by
  unfold PySem.without mdel
  induction h with
  | nil => exact .nil
  | @cons k' _ _ _ _ hy _ ih =>
    by_cases q : k' = k
    · simpa [List.filter_cons, q] using ih
    · simp only [List.filter_cons, ne_eq, q, not_false_eq_true, decide_true, if_true]
      exact .cons hy ih
end

/-- a dict object by ints -/
def DG (prog : Program) (w : World) {α : Type} (Rv : α → Value → Prop) (o : Obj) (m : Mp α) : Prop := ∃ kvs, o.IsDictOf (intKind prog w) kvs ∧ Prs Rv kvs m
def RInt (a : Int) (x : Value) : Prop := ∃ t, x = .int a t
theorem DG.nodup {prog : Program} {w : World} {α : Type} {Rv : α → Value → Prop} {o : Obj} {m : Mp α} (h : DG prog w Rv o m) : (m.map (·.1)).Nodup := by
  obtain ⟨kvs, ⟨_, _, _, _, _, _, nd⟩, p⟩ := h
  rw [← p.keys]; exact nd
section
variable {prog : Program} {w : World} {A : Around} {E : Value → Shared → Prop} {s s₀ : Shared} {h₀ : Heap} {env : Env} {ρ ρ' : Rho} {Λ Λ' : List (Addr × Obj)} {b : Bool} {K : Frag} {α : Type} {Rv : α → Value → Prop} {m : Mp α} {d : Addr} {od : Obj} {k : Int} {tk : Tok}
theorem DG.at (h : DG prog w Rv od m) (e : s.heap.get? d = some od) : ∃ kvs, s.heap.DictOf (intKind prog w) d kvs ∧ Prs Rv kvs m := by
  obtain ⟨kvs, a, b⟩ := h
  exact ⟨kvs, Heap.dictOf_iff.mpr ⟨od, e, a⟩, b⟩
theorem d_new {pos : Pos} {Q : Value → Shared → Prop} (S : CS b s₀ h₀ env ρ Λ s) (h : ∀ D od s', (∀ (α : Type) (Rv : α → Value → Prop), DG prog w Rv od []) → CS b s₀ h₀ env ρ ((D, od) :: Λ) s' → s.heap.get? D = none → D = s.heap.objs.size → Q (.ref D) s') : wpAny (model prog w) A (eval (.Dict [] [] pos) env) Q E s := by
  refine wpAny_Dict_empty (h _ _ _ (fun α Rv => ⟨[], ?_, .nil⟩) (S.pushL _ s.toks rfl) (fresh_none (Nat.le_refl _)) rfl)
  obtain ⟨o, ho, hd⟩ := Heap.dictOf_iff.mp (Heap.DictOf.new (knd := intKind prog w) s.heap)
  rw [Heap.get?_push_size _ rfl] at ho
  cases ho
  exact hd
theorem d_in {Q : Value → Shared → Prop} (S : CS b s₀ h₀ env ρ Λ s) (e : s.heap.get? d = some od) (D : DG prog w Rv od m) (hd : (d == sysModules) = false) (h : ∀ s', CS b s₀ h₀ env ρ Λ s' → Q (.bool (mget m k).isSome) s') : wpAny (model prog w) A (compareOp .In (.int k tk) (.ref d)) Q E s := by
  obtain ⟨kvs, x, p⟩ := D.at e
  refine wpAny_in_of (knd := intKind prog w) (intKind_is ..) hd x.mapOf ?_
  rw [p.isSome]
  exact h _ (S.tok _)
theorem d_notin {Q : Value → Shared → Prop} (S : CS b s₀ h₀ env ρ Λ s) (e : s.heap.get? d = some od) (D : DG prog w Rv od m) (hd : (d == sysModules) = false) (h : ∀ s', CS b s₀ h₀ env ρ Λ s' → Q (.bool (!(mget m k).isSome)) s') : wpAny (model prog w) A (compareOp .NotIn (.int k tk) (.ref d)) Q E s := by
  obtain ⟨kvs, x, p⟩ := D.at e
  refine wpAny_notIn_of (knd := intKind prog w) (intKind_is ..) hd x.mapOf ?_
  rw [p.isSome]
  exact h _ (S.tok _)
theorem d_at {value slice : Expr} {a : α} {Q : Value → Shared → Prop} (S : CS b s₀ h₀ env ρ Λ s) (e : s.heap.get? d = some od) (D : DG prog w Rv od m) (hk : mget m k = some a)
    (hs : subscripted slice false (.ref d) (.int k tk) = operate [.ref d, .int k tk] (getItem (.ref d) (.int k tk))) (h : ∀ x s', Rv a x → CS b s₀ h₀ env ρ Λ s' → Q x s') : wpAny (model prog w) A (subscriptTail value slice (.ref d) (.int k tk)) Q E s := by
  obtain ⟨kvs, x, p⟩ := D.at e
  rcases p.get k with ⟨y, a', e1, e2, r⟩ | ⟨_, e2⟩
  · rw [hk] at e2; cases e2
    exact tail_any x.typeIs slot_dict_getitem.lookup (wpAny_getItem_of (knd := intKind prog w) (intKind_is ..) x.mapOf e1 (h y _ r (S.tok _))) hs
  · rw [hk] at e2; cases e2
theorem x_setitem {o i value : Expr} {pos' pos : Pos} {rest : List Stmt} {M : Model} {Q : Flow → Shared → Prop}
    (h : wpAny M A (eval value env) (fun v s₁ => wpAny M A (eval o env) (fun ov s₂ => wpAny M A (eval i env) (fun iv s₃ => wpAny M A (setItem ov iv v) (fun _ s₄ => wpAny M A (execs rest env) Q E s₄) E s₃) E s₂) E s₁) E s)
    (hs : swapsWith value (some (.Subscript o i pos')) pos.line env = pure false) : wpAny M A (execs (.Assign [.Subscript o i pos'] value pos :: rest) env) Q E s :=
  wpAny_execs_cons (wpAny_Assign_Subscript h hs)
theorem CS.chgD {g : Obj → List (Addr × Obj)} {h' : Heap} {tk' : Nat} (S : CS true s₀ h₀ env ρ Λ s) (U : ChgF d od Λ g) (hs : Heap.SameBut d s.heap h') {od' : Obj} (ho : h'.get? d = some od') : CS true s₀ h₀ env ρ (g od') { s with heap := h', toks := tk' } :=
  S.chg (U.to _) (fun c x hc q => hs.extBut c x hc q) ho
theorem d_set {g : Obj → List (Addr × Obj)} {a : α} {x : Value} {Q : Unit → Shared → Prop} (S : CS true s₀ h₀ env ρ Λ s) (U : ChgF d od Λ g) (D : DG prog w Rv od m) (hx : Rv a x) (hn : m.length ≤ 16777216)
    (h : ∀ od' s', DG prog w Rv od' (mput m k a) → CS true s₀ h₀ env ρ (g od') s' → Q () s') : wpAny (model prog w) A (setItem (.ref d) (.int k tk) x) Q E s := by
  obtain ⟨kvs, y, p⟩ := D.at (S.atLed (U.to od).mem)
  refine wpAny_setItem_pairs (knd := intKind prog w) (intKind_is ..) y (fun h' y' hs => ?_) (by rw [p.length, sizeLine_eq]; exact hn)
  obtain ⟨o', ho', hd'⟩ := Heap.dictOf_iff.mp y'
  exact h o' _ ⟨_, hd', p.put k hx⟩ (S.chgD U hs ho')
theorem d_pop {g : Obj → List (Addr × Obj)} {a : α} {Q : Value → Shared → Prop} (S : CS true s₀ h₀ env ρ Λ s) (U : ChgF d od Λ g) (D : DG prog w Rv od m) (hk : mget m k = some a) (hn : m.length ≤ 16777216)
    (h : ∀ x od' s', Rv a x → DG prog w Rv od' (mdel m k) → CS true s₀ h₀ env ρ (g od') s' → Q x s') : wpAny (model prog w) A (call (.builtin "dict.pop") [.ref d, .int k tk]) Q E s := by
  obtain ⟨kvs, y, p⟩ := D.at (S.atLed (U.to od).mem)
  rcases p.get k with ⟨x, a', e1, e2, r⟩ | ⟨_, e2⟩
  · rw [hk] at e2; cases e2
    refine call_meetsIn F.slot_dict_pop y.typeIs F.entry_dict_pop (F.args_dict_pop_2 _ _) (meets_dict_pop_there (intKind prog w) d (intKind_is ..) [] (.inl rfl) rfl) ⟨kvs, x, y, by rw [p.length, sizeLine_eq]; exact hn, e1, fun h' y' hs => ?_⟩
    obtain ⟨o', ho', hd'⟩ := Heap.dictOf_iff.mp y'
    exact h x o' _ r ⟨_, hd', p.del k⟩ (S.chgD U hs ho')
  · rw [hk] at e2; cases e2
theorem d_len {Q : Value → Shared → Prop} (S : CS b s₀ h₀ env ρ Λ s) (e : s.heap.get? d = some od) (D : DG prog w Rv od m) (hd : (d == sysModules) = false) (hn : m.length ≤ 16777216) (h : ∀ t s', CS b s₀ h₀ env ρ Λ s' → Q (.int m.length t) s') : wpAny (model prog w) A (call (.builtin "len") [.ref d]) Q E s := by
  obtain ⟨kvs, x, p⟩ := D.at e
  refine call_len_dict hd x (by rw [p.length]; (first | lia | omega)) ?_
  rw [p.length]
  exact h _ _ (S.tok _)
/-- a method of a dict -/
theorem m_dict {name : Str} {id : String} {pl : Sem Bool} {Q : Value × List Value → Shared → Prop} (e : s.heap.get? d = some od) (D : DG prog w Rv od m) (slot : Slot "dict" name id) (hty : typeOf (.builtin id) = pure (.type "method_descriptor"))
    (h : Q (.builtin id, [.ref d]) s) : wpAny (model prog w) A (getMethod (.ref d) name pl) Q E s := by
  obtain ⟨kvs, x, p⟩ := D.at e
  exact getMethod_builtin x.typeIs PySem.F.plainAttrs_dict slot hty x.mapOf.noDict h
/-- dict(d) -/
theorem d_copy {Q : Value → Shared → Prop} (S : CS true s₀ h₀ env ρ Λ s) (e : s.heap.get? d = some od) (D : DG prog w Rv od m) (hd : (d == sysModules) = false) (hn : m.length ≤ 16777216)
    (h : ∀ D' od' s', DG prog w Rv od' m → CS true s₀ h₀ env ρ ((D', od') :: Λ) s' → s.heap.get? D' = none → D' = s.heap.objs.size → Q (.ref D') s') : wpAny (model prog w) A (call (.type "dict") [.ref d]) Q E s := by
  obtain ⟨kvs, x, p⟩ := D.at e
  refine kt_call_dict hd x (by rw [p.length, sizeLine_eq]; exact hn) fun h' y hs => ?_
  obtain ⟨o', ho', hd'⟩ := Heap.dictOf_iff.mp y
  refine h _ o' _ ⟨_, hd', p⟩ (S.new (wr := []) (tk := s.toks) rfl (fun c o _ q => ?_) (fun _ h => nomatch h) (fun _ h => nomatch h) (fresh_none (Nat.le_refl _)) ho') (fresh_none (Nat.le_refl _)) rfl
  exact hs.extBut c o (Nat.ne_of_lt (Heap.lt_size q)) (Heap.get?_push_of_some _ q)
end
end Fl

namespace Fl
open PySem
-- layings, and how few cells stay bare: no program here
theorem mget_append {α : Type} (m n : Mp α) (k : Int) : mget (m ++ n) k = (mget m k).or (mget n k) := by
  unfold mget
  rw [List.find?_append]
  cases m.find? (fun p => decide (p.1 = k)) <;> rfl
theorem mget_isSome {α : Type} {m : Mp α} {k : Int} : (mget m k).isSome = m.any (fun p => p.1 = k) := by
  unfold mget
  rw [Option.isSome_map, List.isSome_find?]
theorem mget_mem {α : Type} {m : Mp α} {k : Int} {a : α} (h : mget m k = some a) : (k, a) ∈ m := by
  unfold mget at h
  rw [Option.map_eq_some_iff] at h
  obtain ⟨p, hp, rfl⟩ := h
  have h1 := List.mem_of_find?_eq_some hp
  have h2 : p.1 = k := by have := List.find?_some hp; simpa using this
  rw [← h2]; exact h1
theorem mget_none_iff {α : Type} {m : Mp α} {k : Int} : mget m k = none ↔ k ∉ m.map (·.1) := by
  unfold mget
  rw [Option.map_eq_none_iff, List.find?_eq_none]
  simp only [decide_eq_true_eq, List.mem_map, not_exists, not_and]
theorem mget_of_mem {α : Type} : ∀ {m : Mp α} {k : Int} {a : α}, (m.map (·.1)).Nodup → (k, a) ∈ m → mget m k = some a
  | (k', a') :: r, k, a, nd, h => by
    rw [List.map_cons, List.nodup_cons] at nd
    rcases List.mem_cons.mp h with e | h
    · cases e; simp [mget]
    · have : k' ≠ k := fun q => nd.1 (List.mem_map.mpr ⟨(k, a), h, q.symm⟩)
      have ih := mget_of_mem nd.2 h
      unfold mget at ih ⊢
      rw [List.find?_cons]
      simp only [this, decide_false]
      exact ih
theorem mget_mput {α : Type} (m : Mp α) (k x : Int) (a : α) : mget (mput m k a) x = if x = k then some a else mget m x := by
  unfold mput
  split
  · rename_i h
    induction m with
    | nil => cases h
    | cons p r ih =>
      by_cases q : p.1 = k
      · by_cases z : x = k
        · simp [mget, q, z]
        · have zq : ¬ p.1 = x := fun e => z (e ▸ q)
          have zk : ¬ k = x := fun e => z e.symm
          by_cases hr : r.any (fun p => decide (p.1 = k)) = true
          · have := ih hr
            simp only [mget, List.map_cons, q, if_true, List.find?_cons, zk, decide_false, if_neg z] at this ⊢
            exact this
          · have : r.map (fun p => if p.1 = k then (p.1, a) else p) = r := by
              refine (List.map_congr_left (g := id) fun p hp => ?_).trans (List.map_id r)
              have : ¬ p.1 = k := fun e => hr (List.any_eq_true.mpr ⟨p, hp, decide_eq_true e⟩)
              simp [this]
            rw [List.map_cons, this]
            simp [mget, q, zk, z]
      · have hr : r.any (fun p => decide (p.1 = k)) = true := by
          rw [List.any_cons] at h
          simpa [q] using h
        have := ih hr
        by_cases z : p.1 = x
        · have : ¬ x = k := fun e => q (z.trans e)
          simp [mget, q, z, this]
        · simp only [mget, List.map_cons, q, if_false, List.find?_cons, z, decide_false] at this ⊢
          exact this
  · rename_i h
    rw [mget_append]
    have hk : mget m k = none := by
      cases e : mget m k with
      | none => rfl
      | some b => exact absurd (by rw [← mget_isSome, e]; rfl) h
    by_cases z : x = k
    · rw [if_pos z, z, hk]; simp [mget]
    · have zk : ¬ k = x := fun e => z e.symm
      rw [if_neg z]
      cases mget m x <;> simp [mget, zk]
theorem mget_mdel {α : Type} (m : Mp α) (k x : Int) : mget (mdel m k) x = if x = k then none else mget m x := by
  unfold mdel
  induction m with
  | nil => simp [mget]
  | cons p r ih =>
    by_cases q : p.1 = k
    · rw [List.filter_cons]
      simp only [ne_eq, q, not_true, decide_false, Bool.false_eq_true, if_false]
      rw [ih]
      by_cases z : x = k
      · rw [if_pos z, if_pos z]
      · rw [if_neg z, if_neg z]
        have zq : ¬ p.1 = x := fun e => z (e.symm.trans q)
        simp [mget, zq]
    · rw [List.filter_cons]
      simp only [ne_eq, q, not_false_eq_true, decide_true, if_true]
      by_cases z : p.1 = x
      · have : ¬ x = k := fun e => q (z.trans e)
        simp [mget, z, this]
      · have e1 : mget (p :: r.filter fun p => decide (p.1 ≠ k)) x = mget (r.filter fun p => decide (p.1 ≠ k)) x := by simp [mget, z]
        have e2 : mget (p :: r) x = mget r x := by simp [mget, z]
        rw [e1, e2]; exact ih
theorem mput_keys {α : Type} {m : Mp α} (nd : (m.map (·.1)).Nodup) (k : Int) (a : α) : ((mput m k a).map (·.1)).Nodup := by
  unfold mput
  split
  · have : (m.map (fun p => if p.1 = k then (p.1, a) else p)).map (·.1) = m.map (·.1) := by
      rw [List.map_map]
      apply List.map_congr_left
      intro p _
      show (if p.1 = k then (p.1, a) else p).1 = p.1
      split <;> rfl
    rw [this]; exact nd
  · rename_i h
    rw [List.map_append, List.nodup_append]
    refine ⟨nd, by simp, fun x hx y hy e => ?_⟩
    simp at hy
    subst hy; subst e
    obtain ⟨p, hp, q⟩ := List.mem_map.mp hx
    exact h (List.any_eq_true.mpr ⟨p, hp, decide_eq_true q⟩)
theorem mdel_keys {α : Type} {m : Mp α} (nd : (m.map (·.1)).Nodup) (k : Int) : ((mdel m k).map (·.1)).Nodup := by
  unfold mdel
  exact nd.sublist (List.Sublist.map _ List.filter_sublist)

/-- which two cells a slab may cover, and the shades -/
structure Gph (may : Int → Int → Bool) (sh : Int → Int) : Prop where
  symm : ∀ a c, may a c = may c a
  shade : ∀ a c, may a c = true → sh a ≠ sh c
  two : ∀ a, sh a = 0 ∨ sh a = 1
/-- a laying: every covered cell with the other cell of its slab -/
structure LayM (may : Int → Int → Bool) (m : Mp Int) : Prop where
  nd : (m.map (·.1)).Nodup
  inv : ∀ k v, mget m k = some v → mget m v = some k ∧ may k v = true
theorem LayM.nil (may : Int → Int → Bool) : LayM may [] := ⟨List.nodup_nil, fun _ _ h => by simp [mget] at h⟩
theorem Gph.ne {may : Int → Int → Bool} {sh : Int → Int} (g : Gph may sh) {a c : Int} (h : may a c = true) : a ≠ c := fun e => g.shade a c h (by rw [e])
theorem LayM.put {may : Int → Int → Bool} {sh : Int → Int} {m : Mp Int} (g : Gph may sh) (L : LayM may m) {a c : Int} (h : may a c = true) (ha : mget m a = none) (hc : mget m c = none) : LayM may (mput (mput m a c) c a) := by
  have hne := g.ne h
  refine ⟨mput_keys (mput_keys L.nd _ _) _ _, fun k v q => ?_⟩
  rw [mget_mput, mget_mput] at q
  by_cases k1 : k = c
  · rw [if_pos k1] at q
    cases q
    subst k1
    refine ⟨?_, by rw [g.symm]; exact h⟩
    rw [mget_mput, mget_mput, if_neg hne, if_pos rfl]
  · rw [if_neg k1] at q
    by_cases k2 : k = a
    · rw [if_pos k2] at q
      cases q
      subst k2
      refine ⟨?_, h⟩
      rw [mget_mput, if_pos rfl]
    · rw [if_neg k2] at q
      obtain ⟨r1, r2⟩ := L.inv k v q
      refine ⟨?_, r2⟩
      have v1 : v ≠ c := fun e => by rw [e, hc] at r1; cases r1
      have v2 : v ≠ a := fun e => by rw [e, ha] at r1; cases r1
      rw [mget_mput, mget_mput, if_neg v1, if_neg v2]; exact r1
theorem LayM.lift {may : Int → Int → Bool} {m : Mp Int} (L : LayM may m) {a c : Int} (h : mget m a = some c) : LayM may (mdel (mdel m a) c) := by
  obtain ⟨h1, _⟩ := L.inv a c h
  refine ⟨mdel_keys (mdel_keys L.nd _) _, fun k v q => ?_⟩
  rw [mget_mdel, mget_mdel] at q
  by_cases k1 : k = c
  · rw [if_pos k1] at q; cases q
  · rw [if_neg k1] at q
    by_cases k2 : k = a
    · rw [if_pos k2] at q; cases q
    · rw [if_neg k2] at q
      obtain ⟨r1, r2⟩ := L.inv k v q
      refine ⟨?_, r2⟩
      have v1 : v ≠ c := fun e => by rw [e, h1] at r1; cases r1; exact k2 rfl
      have v2 : v ≠ a := fun e => by rw [e, h] at r1; cases r1; exact k1 rfl
      rw [mget_mdel, mget_mdel, if_neg v1, if_neg v2]; exact r1

def bareL (m : Mp Int) (L : List Int) : List Int := L.filter fun c => (mget m c).isNone
theorem filter_len {b : Int} {r : List Int} (h : b ∈ r) : (r.filter fun x => x != b).length < r.length := by
  apply List.length_filter_lt_length_iff_exists.mpr
  exact ⟨b, h, by simp⟩
-- what is reached, and the way back
inductive WF (may : Int → Int → Bool) (sh : Int → Int) (z : Int) (m : Mp Int) : Mp (Option Int) → Prop
  | nil : WF may sh z m []
  | root {F c} : WF may sh z m F → mget F c = none → sh c = z → mget m c = none → WF may sh z m (F ++ [(c, none)])
  | leaf {F a b} : WF may sh z m F → (mget F a).isSome = true → sh a = z → may a b = true → mget F b = none → mget m b = none → WF may sh z m (F ++ [(b, some a)])
  | pair {F a b v} : WF may sh z m F → (mget F a).isSome = true → sh a = z → may a b = true → mget F b = none → mget m b = some v → WF may sh z m (F ++ [(b, some a), (v, some b)])
section
variable {may : Int → Int → Bool} {sh : Int → Int} {z : Int} {m : Mp Int} {F : Mp (Option Int)}
theorem mget_one {α : Type} (k x : Int) (a : α) : mget [(k, a)] x = if x = k then some a else none := by
  by_cases h : x = k
  · simp [mget, h]
  · have : ¬ k = x := fun e => h e.symm
    simp [mget, h, this]
theorem mget_two {α : Type} (k k' x : Int) (a a' : α) : mget [(k, a), (k', a')] x = if x = k then some a else if x = k' then some a' else none := by
  by_cases h : x = k
  · simp [mget, h]
  · have : ¬ k = x := fun e => h e.symm
    by_cases h' : x = k'
    · subst h'; simp [mget, h, this]
    · have h2 : ¬ k' = x := fun e => h' e.symm
      simp [mget, h, this, h', h2]
/-- a covered cell is met with the other cell of its slab -/
theorem WF.mates (g : Gph may sh) (L : LayM may m) (h : WF may sh z m F) : ∀ b v, mget m b = some v → (mget F b).isSome = (mget F v).isSome := by
  induction h with
  | nil => intro b v _; rfl
  | @root F c _ hn hs hb ih =>
    intro b v hv
    have b1 : b ≠ c := fun e => by rw [e, hb] at hv; cases hv
    have v1 : v ≠ c := fun e => by have := (L.inv b v hv).1; rw [e, hb] at this; cases this
    rw [mget_append, mget_append, mget_one, mget_one, if_neg b1, if_neg v1, Option.or_none, Option.or_none]
    exact ih b v hv
  | @leaf F a c _ ha hs hm hn hb ih =>
    intro b v hv
    have b1 : b ≠ c := fun e => by rw [e, hb] at hv; cases hv
    have v1 : v ≠ c := fun e => by have := (L.inv b v hv).1; rw [e, hb] at this; cases this
    rw [mget_append, mget_append, mget_one, mget_one, if_neg b1, if_neg v1, Option.or_none, Option.or_none]
    exact ih b v hv
  | @pair F a c u _ ha hs hm hn hb ih =>
    intro b v hv
    rw [mget_append, mget_append, mget_two, mget_two, Option.isSome_or, Option.isSome_or, ih b v hv]
    congr 1
    have hu := (L.inv c u hb).1
    have hvb := (L.inv b v hv).1
    by_cases b1 : b = c
    · rw [if_pos b1]
      rw [b1, hb] at hv; cases hv
      by_cases v1 : u = c
      · rw [if_pos v1]
      · rw [if_neg v1, if_pos rfl]; rfl
    · rw [if_neg b1]
      by_cases b2 : b = u
      · rw [if_pos b2]
        rw [b2, hu] at hv; cases hv
        rw [if_pos rfl]; rfl
      · rw [if_neg b2]
        have v1 : v ≠ c := fun e => by rw [e, hb] at hvb; cases hvb; exact b2 rfl
        have v2 : v ≠ u := fun e => by rw [e, hu] at hvb; cases hvb; exact b1 rfl
        rw [if_neg v1, if_neg v2]
theorem WF.pairNew (g : Gph may sh) (L : LayM may m) (h : WF may sh z m F) {b v : Int} (hb : mget F b = none) (hv : mget m b = some v) : mget F v = none := by
  have := h.mates g L b v hv
  rw [hb] at this
  cases e : mget F v with
  | none => rfl
  | some _ => rw [e] at this; cases this
/-- only cells are met: of the first shade bare or covered, of the other too -/
theorem WF.cells (g : Gph may sh) (L : LayM may m) {C : Int → Prop} (hm : ∀ a c, may a c = true → C c) (hr : ∀ c x, mget F c = some x → x = none → C c) (h : WF may sh z m F) : ∀ c x, mget F c = some x → C c := by
  induction h with
  | nil => intro c x q; simp [mget] at q
  | @root F c _ hn hs hb ih =>
    intro k x q
    by_cases e : k = c
    · refine hr k x q ?_
      rw [mget_append, mget_one, e, hn] at q
      simp at q; exact q.symm
    · refine ih (fun k' x' q' e' => hr k' x' ?_ e') k x ?_
      · rw [mget_append, q']; rfl
      · rw [mget_append, mget_one, if_neg e, Option.or_none] at q; exact q
  | @leaf F a c _ ha hs hmm hn hb ih =>
    intro k x q
    by_cases e : k = c
    · subst e; exact hm _ _ hmm
    · refine ih (fun k' x' q' e' => hr k' x' ?_ e') k x ?_
      · rw [mget_append, q']; rfl
      · rw [mget_append, mget_one, if_neg e, Option.or_none] at q; exact q
  | @pair F a c u _ ha hs hmm hn hb ih =>
    intro k x q
    by_cases e : k = c
    · subst e; exact hm _ _ hmm
    · by_cases e2 : k = u
      · subst e2
        exact hm c k (L.inv c k hb).2
      · refine ih (fun k' x' q' e' => hr k' x' ?_ e') k x ?_
        · rw [mget_append, q']; rfl
        · rw [mget_append, mget_two, if_neg e, if_neg e2, Option.or_none] at q; exact q
/-- the way from a cell that is met back to its root -/
inductive Pth (may : Int → Int → Bool) (sh : Int → Int) (z : Int) (m : Mp Int) (F : Mp (Option Int)) : Int → List Int → Prop
  | root {c} : mget F c = some none → sh c = z → mget m c = none → Pth may sh z m F c [c]
  | leaf {a b P} : mget F b = some (some a) → sh a = z → may a b = true → b ∉ P → Pth may sh z m F a P → Pth may sh z m F b (b :: P)
  | mate {b v P} : mget F v = some (some b) → mget m b = some v → sh v = z → v ∉ P → Pth may sh z m F b P → Pth may sh z m F v (v :: P)
theorem Pth.in_ {c : Int} {P : List Int} (h : Pth may sh z m F c P) : ∀ x ∈ P, (mget F x).isSome = true := by
  induction h with
  | root e _ _ => intro x hx; rw [List.mem_singleton.mp hx, e]; rfl
  | leaf e _ _ _ _ ih => intro x hx; rcases List.mem_cons.mp hx with rfl | hx; · rw [e]; rfl
                         · exact ih x hx
  | mate e _ _ _ _ ih => intro x hx; rcases List.mem_cons.mp hx with rfl | hx; · rw [e]; rfl
                         · exact ih x hx
theorem mget_left {α : Type} {m n : Mp α} {k : Int} {a : α} (h : mget m k = some a) : mget (m ++ n) k = some a := by rw [mget_append, h]; rfl
theorem Pth.grow {c : Int} {P : List Int} {N : Mp (Option Int)} (h : Pth may sh z m F c P) : Pth may sh z m (F ++ N) c P := by
  induction h with
  | root e a b => exact .root (mget_left e) a b
  | leaf e a b d _ ih => exact .leaf (mget_left e) a b d ih
  | mate e a b d _ ih => exact .mate (mget_left e) a b d ih
theorem WF.path (g : Gph may sh) (L : LayM may m) (h : WF may sh z m F) : ∀ c x, mget F c = some x → ∃ P, Pth may sh z m F c P := by
  have key : ∀ {c : Int} {F : Mp (Option Int)} {P : List Int}, mget F c = none → Pth may sh z m F c P → False := fun hn p => by
    cases p with
    | root e _ _ => rw [hn] at e; cases e
    | leaf e _ _ _ _ => rw [hn] at e; cases e
    | mate e _ _ _ _ => rw [hn] at e; cases e
  induction h with
  | nil => intro c x q; simp [mget] at q
  | @root F c _ hn hs hb ih =>
    intro k x q
    by_cases e : k = c
    · subst e
      refine ⟨[k], .root ?_ hs hb⟩
      rw [mget_append, mget_one, hn, if_pos rfl]; rfl
    · rw [mget_append, mget_one, if_neg e, Option.or_none] at q
      obtain ⟨P, p⟩ := ih k x q
      exact ⟨P, p.grow⟩
  | @leaf F a c _ ha hs hmm hn hb ih =>
    intro k x q
    by_cases e : k = c
    · subst e
      obtain ⟨xa, ea⟩ := Option.isSome_iff_exists.mp ha
      obtain ⟨P, p⟩ := ih a xa ea
      refine ⟨k :: P, .leaf ?_ hs hmm (fun q => ?_) p.grow⟩
      · rw [mget_append, mget_one, hn, if_pos rfl]; rfl
      · have := p.in_ k q; rw [hn] at this; cases this
    · rw [mget_append, mget_one, if_neg e, Option.or_none] at q
      obtain ⟨P, p⟩ := ih k x q
      exact ⟨P, p.grow⟩
  | @pair F a c u wf ha hs hmm hn hb ih =>
    intro k x q
    have hcu := g.ne (L.inv c u hb).2
    have hun := wf.pairNew g L hn hb
    obtain ⟨xa, ea⟩ := Option.isSome_iff_exists.mp ha
    obtain ⟨P, p⟩ := ih a xa ea
    have pc : Pth may sh z m (F ++ [(c, some a), (u, some c)]) c (c :: P) := by
      refine .leaf ?_ hs hmm (fun q => ?_) p.grow
      · rw [mget_append, mget_two, hn, if_pos rfl]; rfl
      · have := p.in_ c q; rw [hn] at this; cases this
    by_cases e : k = c
    · subst e; exact ⟨_, pc⟩
    · by_cases e2 : k = u
      · subst e2
        refine ⟨_, .mate ?_ hb ?_ (fun q => ?_) pc⟩
        · rw [mget_append, mget_two, hun, if_neg e, if_pos rfl]; rfl
        · have h1 := g.shade a c hmm
          have h2 := g.shade c k (L.inv c k hb).2
          rcases g.two a with t1 | t1 <;> rcases g.two c with t2 | t2 <;> rcases g.two k with t3 | t3 <;> (first | lia | omega)
        · rcases List.mem_cons.mp q with q | q
          · exact e q
          · have := p.in_ k q; rw [hun] at this; cases this
      · rw [mget_append, mget_two, if_neg e, if_neg e2, Option.or_none] at q
        obtain ⟨P', p'⟩ := ih k x q
        exact ⟨P', p'.grow⟩
end
-- a laying turned along a way
section
variable {may : Int → Int → Bool} {sh : Int → Int} {m : Mp Int} {P : List Int}
theorem nodup_inj : ∀ {W : List Int}, W.Nodup → ∀ (i j : Nat) (x : Int), W[i]? = some x → W[j]? = some x → i = j
  | [], _, i, _, _, h, _ => by simp at h
  | y :: r, nd, i, j, x, h1, h2 => by
    rw [List.nodup_cons] at nd
    cases i with
    | zero =>
      cases j with
      | zero => rfl
      | succ j => simp at h1 h2; subst h1; exact absurd (List.mem_of_getElem? h2) nd.1
    | succ i =>
      cases j with
      | zero => simp at h1 h2; subst h2; exact absurd (List.mem_of_getElem? h1) nd.1
      | succ j => simp at h1 h2; rw [nodup_inj nd.2 i j x h1 h2]
theorem nodup_get {W : List Int} (nd : W.Nodup) {i j : Nat} {x : Int} (h1 : W[i]? = some x) (h2 : W[j]? = some x) : i = j := by
  exact nodup_inj nd i j x h1 h2
end
end Fl

namespace Fl
open PySem PySem.W PySem.Calls PyProof.Rows

section
variable {prog : Program} {w : World} {A : Around} {E : Value → Shared → Prop} {s s' s₀ : Shared} {h₀ h₁ : Heap} {env : Env} {ρ ρ' : Rho} {Λ Λ' : List (Addr × Obj)} {b : Bool} {K : Frag} {α : Type} {Rv : α → Value → Prop} {m : Mp α} {d : Addr} {od : Obj}
theorem ints_keys {kvs : List (Int × Value)} {m : Mp α} (p : Prs Rv kvs m) : ∀ (vs : List Value), vs.length = kvs.length → (∀ (j : Nat) v, vs[j]? = some v → ∃ k x, kvs[j]? = some (k, x) ∧ (intKind prog w).is k v = true) → IntsAre vs (m.map (·.1)) := by
  induction p with
  | nil => intro vs hl _; rw [List.length_eq_zero_iff.mp hl]; exact .nil
  | @cons k a x r m' _ _ ih =>
    intro vs hl h
    cases vs with
    | nil => simp at hl
    | cons v vs =>
      obtain ⟨k', x', e, hk⟩ := h 0 v rfl
      simp at e
      obtain ⟨t, rfl⟩ := Value.isInt_shape hk
      rw [← e.1]
      exact .cons _ t (ih vs (by simpa using hl) fun j u hu => by simpa using h (j + 1) u (by simpa using hu))
theorem rev_nolen : typeLookup (.type "list_reverseiterator") "__len__" = pure none := by rw [typeLookup_type, builtinLookup_eq_fast]; kernel_rfl
theorem rev_hint : typeLookup (.type "list_reverseiterator") "__length_hint__" = pure (some (.builtin "list_reverseiterator.__length_hint__")) := by rw [typeLookup_type, builtinLookup_eq_fast]; kernel_rfl
theorem hint_rev {r : Addr} {Q : Bool → Shared → Prop} (hT : s.TypeIs (.ref r) "list_reverseiterator") (h : Q false s) : wpAny (model prog w) A (Builtin.List.listLengthHint (.ref r)) Q E s := by
  unfold Builtin.List.listLengthHint
  refine wpAny_bind (wpAny_specialOf hT rev_nolen ?_)
  dsimp only
  refine wpAny_ite_split (fun hab => absurd hab (by decide +kernel)) (fun _ => ?_)
  refine wpAny_ite_split (fun hab => absurd hab (by decide)) (fun _ => ?_)
  refine wpAny_bind (wpAny_specialOf hT rev_hint ?_)
  generalize hid : ("list_reverseiterator.__length_hint__" : String) = id0
  wp_delta
  rw [show splitId id0 = some ("list_reverseiterator", "__length_hint__") from by subst hid; decide +kernel]
  subst hid
  refine wpAny_bind (wpAny_isInstance (T := "list_reverseiterator") (b := true) hT (by rw [isSubtype_type]; kernel_rfl) ?_)
  refine wpAny_ite_split (fun hab => absurd hab (by decide)) (fun _ => ?_)
  refine wpAny_ite_split (fun _ => ?_) (fun hab => absurd (by decide +kernel) hab)
  refine wpAny_ite_split (fun hab => absurd hab (by decide +kernel)) (fun _ => ?_)
  exact wpAny_pure h
theorem rl_extend {R : Result → Shared → Prop} {r l S : Addr} {items : Array Value} (hh : A.handled = none) (hit : s.heap.IsRevIter r l ((items.size : Int) - 1)) (hl : s.heap.IsList l items) (hne : l ≠ r) (hSr : S ≠ r) (hSl : S ≠ l) (res : Value) (c₀ : Nat) (hS : s.heap.get? S = some { cls := .type "list", data := .seq #[] c₀ })
    (hR : ∀ h' tk acc' c', (∀ b o, b ≠ S → b ≠ r → s.heap.get? b = some o → h'.get? b = some o) → h'.get? S = some (lst acc' c') → ItemsOf (fun i v => items[items.size - 1 - i]? = some v) acc' items.size → R (.ok (.ret res)) { s with heap := h', toks := tk }) (hn : items.size ≤ sizeLine) :
    wpAny (model prog w) A.in1 (Builtin.List.listExtendWith (.ref S) (.ref r) res)
      (fun fin s' => match fin with | .done f => R (.ok f) s' | .again c' => c'.quiet = true ∧ codeAny (model prog w) A c' R s') (fun e s' => R (.error e) s') s := by
  have hSf : S ∉ [r, l] := by simp only [List.mem_cons, List.not_mem_nil, or_false, not_or]; exact ⟨hSr, hSl⟩
  have W := Walks.listRev (prog := prog) (w := w) (A := A.in1) hh r l hne items
  unfold Builtin.List.listExtendWith
  refine wpAny_bind (wpAny_typeOf (T := "list_reverseiterator") hit.typeIs ?_)
  have h1 : Builtin.List.listSameRef (.ref S) (.ref r) = false := by simp [Builtin.List.listSameRef, hSr]
  have h2 : (Value.type "list_reverseiterator" == Value.type "list") = false := by decide
  have h3 : (Value.type "list_reverseiterator" == Value.type "tuple") = false := by decide
  simp only [h1, h2, h3, Bool.or_false, Bool.false_eq_true, if_false]
  refine wpAny_bind (wpAny_pyIter_revIter hit ?_)
  refine wpAny_bind (wpAny_holding (hint_rev hit.typeIs ?_))
  refine wpAny_ite_split (fun hab => absurd hab (by decide +kernel)) (fun _ => wpAny_pure ⟨plainId_quiet PySem.F.plain_extend_loop _, ?_⟩)
  refine codeAny_extend_loopS W.toS hn S hSf res items.size 0 _ #[] c₀ rfl (Nat.zero_le _) ⟨Nat.zero_le _, by simpa using hit, hl⟩ hS (ItemsOf.nil _) fun s' acc' c' hm hS' hacc => ?_
  rw [Moved.eq_with hm]
  exact hR s'.heap s'.toks acc' c' (fun b o hb hb2 e => hm.heap b o (fun hmem => by
    rcases List.mem_cons.mp hmem with e' | hmem
    · exact hb e'
    · exact hb2 (List.mem_singleton.mp hmem)) e) hS' hacc
theorem rev_list {vs : List Value} {acc : Array Value} {ns : List Int} (hi : IntsAre vs ns) (h : ItemsOf (fun i v => vs.toArray[vs.toArray.size - 1 - i]? = some v) acc vs.toArray.size) : IntsAre acc.toList ns.reverse := by
  have : acc.toList = vs.reverse := by
    apply List.ext_getElem?
    intro j
    rw [Array.getElem?_toList]
    cases e : acc[j]? with
    | some v =>
      have h2 := h.2 j v e
      have hj : j < acc.size := by
        have := Array.getElem?_eq_some_iff.mp e; exact this.1
      have h1 := h.1
      simp at h1 h2
      rw [List.getElem?_reverse (by (first | lia | omega))]
      exact h2.symm
    | none =>
      have hj : acc.size ≤ j := by simpa using e
      have h1 := h.1
      simp at h1
      symm
      rw [List.getElem?_eq_none_iff, List.length_reverse]; (first | lia | omega)
  rw [this]; exact IntsAre.reverse hi
/-- list(reversed(xs)) -/
theorem r_list {l r : Addr} {ns : List Int} {vs : List Value} {Q : Value → Shared → Prop} (S : CS true s₀ h₀ env ρ Λ s) (hh : A.handled = none) (hit : s.heap.IsRevIter r l ((vs.length : Int) - 1)) (hl : s.heap.IsList l vs.toArray) (hi : IntsAre vs ns) (hne : l ≠ r) (hr : ¬ CS.own env Λ r) (hr0 : h₀.get? r = none) (hn : vs.length ≤ 16777216)
    (h : ∀ D ys k s', IntsAre ys.toList ns.reverse → CS true s₀ h₀ env ρ ((D, lst ys k) :: Λ) s' → s.heap.get? D = none → Q (.ref D) s') : wpAny (model prog w) A (call (.type "list") [.ref r]) Q E s := by
  have hrl : r < s.heap.objs.size := by obtain ⟨o, e, _⟩ := hit; exact Heap.lt_size e
  have hll : l < s.heap.objs.size := by obtain ⟨o, e, _⟩ := hl; exact Heap.lt_size e
  refine callType_codes (Q₁ := fun obj s₁ => obj = .ref s.heap.objs.size ∧ s₁ = { s with heap := s.heap.push { cls := .type "list", data := .seq #[] } }) PySem.F.called_list (PySem.F.typeCall_list_1 _) PySem.F.entry_list_init
    (code_list_new _ ⟨rfl, rfl⟩) fun obj s₁ h₁ => ?_
  obtain ⟨rfl, rfl⟩ := h₁
  have hS : (s.heap.push { cls := .type "list", data := .seq #[] }).get? s.heap.objs.size = some { cls := .type "list", data := .seq #[] } := Heap.get?_push_size _ rfl
  refine ⟨⟨_, hS, rfl⟩, PySem.F.args_list_init_2 _ _, ?_⟩
  show wpAny _ _ (do let old ← Builtin.List.listItems (.ref s.heap.objs.size); Builtin.List.listUpdate (.ref s.heap.objs.size) (fun _ => #[]); letGo old.toList.reverse; Builtin.List.listExtendWith (.ref s.heap.objs.size) (.ref r) .none) _ _ _
  refine wpAny_bind ?_
  unfold Builtin.List.listItems
  refine wpAny_bind (wpAny_seqItems hS rfl (wpAny_pure ?_))
  show wpAny _ _ (updateSeq s.heap.objs.size (fun _ => #[]) >>= fun _ => letGo (#[] : Array Value).toList.reverse >>= fun _ => Builtin.List.listExtendWith (.ref s.heap.objs.size) (.ref r) .none) _ _ _
  refine wpAny_bind (wpAny_updateSeq hS rfl ?_)
  have hS₂ := Heap.get?_update_self (Obj.mapSeq (fun _ => (#[] : Array Value))) hS rfl
  have up : ∀ b o, s.heap.get? b = some o → ((s.heap.push { cls := .type "list", data := .seq #[] }).update s.heap.objs.size (Obj.mapSeq (fun _ => (#[] : Array Value)))).get? b = some o := fun b o e =>
    (Heap.get?_update_other _ _ (Nat.ne_of_gt (Heap.lt_size e))).trans (Heap.get?_push_of_some _ e)
  refine wpAny_bind (wpAny_letGo ?_)
  refine rl_extend (A := A.in1) hh (l := l) (items := vs.toArray) (by simpa using hit.at fun o e => up _ o e) (hl.at fun o e => up _ o e) hne (Nat.ne_of_gt hrl) (Nat.ne_of_gt hll) .none _ hS₂ (fun h' tk acc' c' hk hD hacc => ?_) (by rw [sizeLine_eq]; simpa using hn)
  refine ⟨rfl, h _ acc' c' _ (rev_list hi hacc) (S.new (wr := [r]) rfl (fun a o ha e => hk a o (Nat.ne_of_lt (Heap.lt_size e)) (fun q => ha (List.mem_singleton.mpr q)) (up a o e)) (fun a ha => by rw [List.mem_singleton.mp ha]; exact hr0) (fun a ha => by rw [List.mem_singleton.mp ha]; exact hr) (fresh_none (Nat.le_refl _)) hD) (fresh_none (Nat.le_refl _))⟩
theorem r_rev {l : Addr} {vs : List Value} {Q : Value → Shared → Prop} (S : CS true s₀ h₀ env ρ Λ s) (hl : s.heap.IsList l vs.toArray)
    (h : ∀ r s', s'.heap.IsRevIter r l ((vs.length : Int) - 1) → s'.heap.IsList l vs.toArray → l ≠ r → ¬ CS.own env Λ r → h₀.get? r = none → CS true s₀ h₀ env ρ Λ s' → Q (.ref r) s') : wpAny (model prog w) A (call (.type "reversed") [.ref l]) Q E s := by
  have hll : l < s.heap.objs.size := by obtain ⟨o, e, _⟩ := hl; exact Heap.lt_size e
  refine call_reversed_list hl (h _ _ ⟨_, Heap.get?_push_size _ rfl, rfl, by simp [revObj]⟩ (hl.at fun o e => Heap.get?_push_of_some _ e) (Nat.ne_of_lt hll) (fun q => ?_) (S.base.none (fresh_none (Nat.le_refl _))) (S.pushK _ s.toks))
  obtain ⟨o, e⟩ := S.own_at q
  exact absurd (Heap.lt_size e) (Nat.lt_irrefl _)
/-- the last of a list -/
theorem l_last {value slice : Expr} {l : Addr} {ns : List Int} {u : Tok} {Q : Value → Shared → Prop} (hl : IntL s.heap l ns) (h0 : 0 < ns.length) (hn : ns.length ≤ 16777216)
    (hs : subscripted slice false (.ref l) (.int (-1) u) = operate [.ref l, .int (-1) u] (getItem (.ref l) (.int (-1) u))) (h : ∀ t, Q (.int (ns.getD (ns.length - 1) 0) t) s) : wpAny (model prog w) A (subscriptTail value slice (.ref l) (.int (-1) u)) Q E s := by
  obtain ⟨vs, a, hi⟩ := hl
  have hlen := hi.length
  have hk : ns.length - 1 < ns.length := by (first | lia | omega)
  obtain ⟨t, e⟩ := hi.get (ns.length - 1) ns[ns.length - 1] (by simp [hk])
  have : ns.getD (ns.length - 1) 0 = ns[ns.length - 1] := by simp [List.getD, hk]
  refine tail_any a.typeIs slot_list_getitem.lookup (wpAny_getItem_list_neg a (by decide) (by simp; (first | lia | omega)) (by decide) ?_ (this ▸ h t)) hs
  have : ((-1 : Int) + (vs.toArray.size : Int)).toNat = ns.length - 1 := by simp; (first | lia | omega)
  rw [this]
  simpa using e
theorem w_isnot {v : Value} {M : Model} {Q : Value → Shared → Prop} (hv : v ≠ .none) (h : Q (.bool true) s) : wpAny M A (compareOp .IsNot v .none) Q E s := isnot_none_ne hv h
theorem w_isnone {M : Model} {Q : Value → Shared → Prop} (h : Q (.bool false) s) : wpAny M A (compareOp .IsNot .none .none) Q E s := wpAny_isNot_self rfl h
/-- a while loop, by what holds between its turns and what every turn lowers -/
theorem x_while {test : Expr} {body rest : List Stmt} {pos : Pos} {Q : Flow → Shared → Prop} (J : Nat → Heap → Rho → List (Addr × Obj) → Prop) (S : CS true s₀ h₀ env ρ Λ s) {n : Nat} (hJ : J n h₀ ρ Λ)
    (turn : ∀ k h₁ ρ₁ Λ₁ s₁, J k h₁ ρ₁ Λ₁ → Sub h₀ h₁ → CS true s₀ h₁ env ρ₁ Λ₁ s₁ →
      wpAny (model prog w) A (isTrue test env (eval test env)) (fun c s₂ =>
        if c = true then wpAny (model prog w) A (execs body env) (LoopQ (fun s₃ => ∃ m h' ρ' Λ', m < k ∧ Sub h₀ h' ∧ CS true s₀ h' env ρ' Λ' s₃ ∧ J m h' ρ' Λ') (SeqQ (model prog w) A env E rest Q)) (NoteE (model prog w) A env E) s₂
        else SeqQ (model prog w) A env E rest Q .next s₂) (NoteE (model prog w) A env E) s₁) :
    wpAny (model prog w) A (execs (.While test body [] pos :: rest) env) Q E s := by
  refine wpAny_execs_cons (while_inv J S hJ fun k h₁ ρ₁ Λ₁ s₁ a b c => ?_)
  refine wpAny_mono (turn k h₁ ρ₁ Λ₁ s₁ a b c) (fun c s₂ z => ?_) fun _ _ z => z
  cases c with
  | false => exact z
  | true => exact wpAny_mono z (fun f s₃ y => by cases f <;> exact y) fun _ _ y => y

/-- an object changed by a call, all else kept -/
structure Upd (d : Addr) (od' : Obj) (s s' : Shared) : Prop where
  same : ∃ h tk, s' = { s with heap := h, toks := tk }
  keep : ∀ a o, a ≠ d → s.heap.get? a = some o → s'.heap.get? a = some o
  at_ : s'.heap.get? d = some od'
theorem CS.upd {g : Obj → List (Addr × Obj)} {od' : Obj} (S : CS true s₀ h₀ env ρ Λ s) (U : ChgF d od Λ g) (u : Upd d od' s s') : CS true s₀ h₀ env ρ (g od') s' := by
  obtain ⟨h, tk, rfl⟩ := u.same
  exact S.chg (U.to _) u.keep u.at_
/-- the heap but for one object -/
theorem but_one (s : Shared) (d : Addr) : ∃ W : Heap, Sub W s.heap ∧ W.get? d = none ∧ ∀ a o, a ≠ d → s.heap.get? a = some o → W.get? a = some o :=
  ⟨without s.heap (· = d), without_sub _ _, without_none rfl, fun _ _ ha e => without_get ha e⟩
/-- a new object taken among the changed ones, all else that is new stays -/
theorem CS.adoptW {D : Addr} {o : Obj} (S : CS true s₀ h₀ env ρ Λ s) (hk : Keeps s s') (hD : s.heap.get? D = none) (hD' : s'.heap.get? D = some o) :
    ∃ h₁, Sub h₀ h₁ ∧ CS true s₀ h₁ env ρ ((D, o) :: Λ) s' ∧ ∀ a x, s.heap.get? a = none → a ≠ D → s'.heap.get? a = some x → h₁.get? a = some x := by
  obtain ⟨h₁, k1, S1, k3⟩ := (S.adopt hk hD hD').wide
  refine ⟨h₁, k1, S1, fun a x hn hne he => k3 a x he fun q => ?_⟩
  rcases q with q | ⟨n, q⟩ | q
  · obtain ⟨o', e⟩ := S.own_at (.inl q); rw [hn] at e; cases e
  · obtain ⟨o', e⟩ := S.own_at (.inr (.inl ⟨n, q⟩)); rw [hn] at e; cases e
  · rw [List.map_cons] at q
    rcases List.mem_cons.mp q with q | q
    · exact hne q
    · obtain ⟨o', e⟩ := S.own_at (.inr (.inr q)); rw [hn] at e; cases e
end
/-- what a dict may hold where something is reached from: nothing, or a cell -/
def ROpt (a : Option Int) (x : Value) : Prop := match a with
  | none => x = .none
  | some i => ∃ t, x = .int i t
theorem gph {rows : List Str} {wd : Nat} (g : Grid rows wd) : Gph (mayB rows wd) (shadeN wd) := by
  refine ⟨fun a c => mayB_symm rows wd a c, fun a c h => shade_ne g h, fun a => ?_⟩
  unfold shadeN
  split
  · exact .inl rfl
  · (first | lia | omega)
end Fl

namespace Fl
open PySem

theorem mput_new {α : Type} {m : Mp α} {k : Int} (a : α) (h : mget m k = none) : mput m k a = m ++ [(k, a)] := by
  unfold mput
  rw [if_neg]
  intro q
  rw [← mget_isSome, h] at q
  cases q
theorem nodup_len : ∀ {W C : List Int}, W.Nodup → (∀ c ∈ W, c ∈ C) → W.length ≤ C.length
  | [], _, _, _ => Nat.zero_le _
  | c :: r, C, nd, h => by
    rw [List.nodup_cons] at nd
    have hc := h c (List.mem_cons_self ..)
    have := nodup_len (C := C.filter fun x => x != c) nd.2 fun x hx => List.mem_filter.mpr ⟨h x (List.mem_cons_of_mem _ hx), by
      have : x ≠ c := fun e => nd.1 (e ▸ hx)
      simpa using this⟩
    have := filter_len hc
    rw [List.length_cons]
    (first | lia | omega)
/-- what holds between the turns: what is met, what waits, how many of them are worked off -/
structure Bfs (may : Int → Int → Bool) (sh : Int → Int) (z : Int) (m : Mp Int) (C : List Int) (F : Mp (Option Int)) (W : List Int) (p : Nat) : Prop where
  wf : WF may sh z m F
  wk : ∀ c, c ∈ W ↔ ((mget F c).isSome = true ∧ sh c = z)
  wn : W.Nodup
  done : ∀ (i : Nat) a, i < p → W[i]? = some a → ∀ b, may a b = true → (mget F b).isSome = true
  r1 : ∀ c ∈ C, mget m c = none → sh c = z → (mget F c).isSome = true
  sub : ∀ c ∈ W, c ∈ C
  rt : ∀ c, mget F c = some none → c ∈ C
section
variable {may : Int → Int → Bool} {sh : Int → Int} {z : Int} {m : Mp Int} {C W : List Int} {F : Mp (Option Int)} {p : Nat}
theorem wf_roots : ∀ (L : List Int) (F : Mp (Option Int)), WF may sh z m F → (∀ c ∈ L, mget F c = none) → L.Nodup → (∀ c ∈ L, sh c = z ∧ mget m c = none) → WF may sh z m (F ++ L.map fun c => (c, none))
  | [], F, w, _, _, _ => by simpa using w
  | c :: r, F, w, h1, nd, h2 => by
    rw [List.nodup_cons] at nd
    have hc := h2 c (List.mem_cons_self ..)
    have := wf_roots r (F ++ [(c, none)]) (w.root (h1 c (List.mem_cons_self ..)) hc.1 hc.2) (fun x hx => by
      have hne : x ≠ c := fun e => nd.1 (e ▸ hx)
      rw [mget_append, mget_one, if_neg hne, h1 x (List.mem_cons_of_mem _ hx)]; rfl) nd.2 (fun x hx => h2 x (List.mem_cons_of_mem _ hx))
    rw [List.append_assoc] at this
    exact this
theorem mget_roots (L : List Int) (c : Int) : mget (L.map fun c => (c, (none : Option Int))) c = if c ∈ L then some none else none := by
  induction L with
  | nil => rfl
  | cons x r ih =>
    rw [List.map_cons, ← List.singleton_append, mget_append, mget_one, ih]
    by_cases h : c = x
    · have hm : c ∈ x :: r := by rw [h]; exact List.mem_cons_self ..
      rw [if_pos h, if_pos hm]; rfl
    · rw [if_neg h]
      by_cases h2 : c ∈ r
      · rw [if_pos h2, if_pos (List.mem_cons_of_mem _ h2)]; rfl
      · rw [if_neg h2, if_neg (fun q => by rcases List.mem_cons.mp q with q | q; exact h q; exact h2 q)]; rfl
theorem Bfs.start (nd : C.Nodup) : Bfs may sh z m C (((bareL m C).filter fun c => decide (sh c = z)).map fun c => (c, none)) ((bareL m C).filter fun c => decide (sh c = z)) 0 := by
  have hm : ∀ c, c ∈ (bareL m C).filter (fun c => decide (sh c = z)) ↔ c ∈ C ∧ mget m c = none ∧ sh c = z := fun c => by
    unfold bareL
    rw [List.mem_filter, List.mem_filter]
    simp [and_assoc]
  have hn : ((bareL m C).filter fun c => decide (sh c = z)).Nodup := (nd.sublist List.filter_sublist).sublist List.filter_sublist
  refine ⟨?_, fun c => ?_, hn, fun i a h => by (first | lia | omega), fun c hc h1 h2 => ?_, fun c hc => ((hm c).mp hc).1, fun c hc => ?_⟩
  · have := wf_roots (may := may) (sh := sh) (z := z) (m := m) _ [] .nil (fun _ _ => rfl) hn (fun c hc => ⟨((hm c).mp hc).2.2, ((hm c).mp hc).2.1⟩)
    simpa using this
  · rw [mget_roots]
    by_cases h : c ∈ (bareL m C).filter fun c => decide (sh c = z)
    · rw [if_pos h]; exact ⟨fun _ => ⟨rfl, ((hm c).mp h).2.2⟩, fun _ => h⟩
    · rw [if_neg h]; exact ⟨fun q => absurd q h, fun q => by cases q.1⟩
  · rw [mget_roots, if_pos ((hm c).mpr ⟨hc, h1, h2⟩)]; rfl
  · rw [mget_roots] at hc
    split at hc
    · rename_i q; exact ((hm c).mp q).1
    · cases hc
/-- the same within a turn, for the cell a and the first j cells beside it -/
structure Mid (may : Int → Int → Bool) (sh : Int → Int) (z : Int) (m : Mp Int) (C : List Int) (a : Int) (bs : List Int) (p : Nat) (j : Nat) (F : Mp (Option Int)) (W : List Int) : Prop where
  wf : WF may sh z m F
  wk : ∀ c, c ∈ W ↔ ((mget F c).isSome = true ∧ sh c = z)
  wn : W.Nodup
  at_ : W[p]? = some a
  done : ∀ (i : Nat) x, i < p → W[i]? = some x → ∀ b, may x b = true → (mget F b).isSome = true
  r1 : ∀ c ∈ C, mget m c = none → sh c = z → (mget F c).isSome = true
  sub : ∀ c ∈ W, c ∈ C
  rt : ∀ c, mget F c = some none → c ∈ C
  seen : ∀ b ∈ bs.take j, (mget F b).isSome = true
theorem Mid.start {a : Int} {bs : List Int} (b : Bfs may sh z m C F W p) (h : W[p]? = some a) : Mid may sh z m C a bs p 0 F W :=
  ⟨b.wf, b.wk, b.wn, h, b.done, b.r1, b.sub, b.rt, fun _ q => by simp at q⟩
theorem Mid.fin {a : Int} {bs : List Int} (x : Mid may sh z m C a bs p bs.length F W) (hb : ∀ b, may a b = true → b ∈ bs) : Bfs may sh z m C F W (p + 1) := by
  refine ⟨x.wf, x.wk, x.wn, fun i y hi hy b hm => ?_, x.r1, x.sub, x.rt⟩
  by_cases q : i = p
  · rw [q, x.at_] at hy; cases hy
    exact x.seen b (by rw [List.take_length]; exact hb b hm)
  · exact x.done i y (by (first | lia | omega)) hy b hm
theorem Mid.skip {a b : Int} {bs : List Int} {j : Nat} (x : Mid may sh z m C a bs p j F W) (hb : bs[j]? = some b) (h : (mget F b).isSome = true) : Mid may sh z m C a bs p (j + 1) F W := by
  refine ⟨x.wf, x.wk, x.wn, x.at_, x.done, x.r1, x.sub, x.rt, fun y hy => ?_⟩
  rw [List.take_add_one, hb] at hy
  rcases List.mem_append.mp hy with q | q
  · exact x.seen y q
  · simp at q; rw [q]; exact h
theorem some_left {α : Type} {F N : Mp α} {k : Int} (h : (mget F k).isSome = true) : (mget (F ++ N) k).isSome = true := by
  rw [mget_append, Option.isSome_or, h]; rfl
theorem Mid.leaf {a b : Int} {bs : List Int} {j : Nat} (g : Gph may sh) (x : Mid may sh z m C a bs p j F W) (hb : bs[j]? = some b) (hm : may a b = true) (hn : mget F b = none) (hv : mget m b = none) : Mid may sh z m C a bs p (j + 1) (F ++ [(b, some a)]) W := by
  have ha := (x.wk a).mp (List.mem_of_getElem? x.at_)
  have hsb : sh b ≠ z := fun e => g.shade a b hm (ha.2.trans e.symm)
  refine ⟨x.wf.leaf ha.1 ha.2 hm hn hv, fun c => ?_, x.wn, x.at_, fun i y hi hy d hd => some_left (x.done i y hi hy d hd), fun c h1 h2 h3 => some_left (x.r1 c h1 h2 h3), x.sub, fun c hc => ?_, fun y hy => ?_⟩
  · rw [x.wk c]
    refine ⟨fun q => ⟨some_left q.1, q.2⟩, fun q => ⟨?_, q.2⟩⟩
    have hcb : c ≠ b := fun e => hsb (e ▸ q.2)
    have := q.1
    rw [mget_append, mget_one, if_neg hcb, Option.or_none] at this; exact this
  · by_cases hcb : c = b
    · rw [mget_append, mget_one, hcb, hn, if_pos rfl] at hc; simp at hc
    · rw [mget_append, mget_one, if_neg hcb, Option.or_none] at hc; exact x.rt c hc
  · rw [List.take_add_one, hb] at hy
    rcases List.mem_append.mp hy with q | q
    · exact some_left (x.seen y q)
    · simp at q; rw [q, mget_append, mget_one, if_pos rfl, hn]; rfl
theorem Mid.pair {a b v : Int} {bs : List Int} {j : Nat} (g : Gph may sh) (L : LayM may m) (hC : ∀ k v, mget m k = some v → k ∈ C) (x : Mid may sh z m C a bs p j F W) (hb : bs[j]? = some b) (hm : may a b = true) (hn : mget F b = none) (hv : mget m b = some v) :
    mget (F ++ [(b, some a)]) v = none ∧ Mid may sh z m C a bs p (j + 1) (F ++ [(b, some a), (v, some b)]) (W ++ [v]) := by
  have ha := (x.wk a).mp (List.mem_of_getElem? x.at_)
  have hsb : sh b ≠ z := fun e => g.shade a b hm (ha.2.trans e.symm)
  obtain ⟨hvb, hmv⟩ := L.inv b v hv
  have hsv : sh v = z := by
    have h1 := g.shade a b hm
    have h2 := g.shade b v hmv
    rcases g.two a with t1 | t1 <;> rcases g.two b with t2 | t2 <;> rcases g.two v with t3 | t3 <;> (first | lia | omega)
  have hvn := x.wf.pairNew g L hn hv
  have hbv : v ≠ b := fun e => hsb (e ▸ hsv)
  have hvW : v ∉ W := fun q => by have := ((x.wk v).mp q).1; rw [hvn] at this; cases this
  have hp : p < W.length := by
    obtain ⟨q, _⟩ := List.getElem?_eq_some_iff.mp x.at_; exact q
  refine ⟨by rw [mget_append, mget_one, if_neg hbv, hvn]; rfl, x.wf.pair ha.1 ha.2 hm hn hv, fun c => ?_, ?_, ?_, fun i y hi hy d hd => ?_, fun c h1 h2 h3 => some_left (x.r1 c h1 h2 h3), fun c hc => ?_, fun c hc => ?_, fun y hy => ?_⟩
  · rw [List.mem_append, List.mem_singleton, x.wk c, mget_append, mget_two, Option.isSome_or]
    by_cases c1 : c = v
    · subst c1
      simp [hbv, hsv]
    · by_cases c2 : c = b
      · subst c2
        simp [hsb, c1]
      · simp [c1, c2]
  · rw [List.nodup_append]
    exact ⟨x.wn, by simp, fun y hy w hw e => by rw [List.mem_singleton.mp hw] at e; exact hvW (e ▸ hy)⟩
  · rw [List.getElem?_append_left hp]; exact x.at_
  · rw [List.getElem?_append_left (by (first | lia | omega))] at hy
    exact some_left (x.done i y hi hy d hd)
  · rcases List.mem_append.mp hc with q | q
    · exact x.sub c q
    · rw [List.mem_singleton.mp q]; exact hC v b hvb
  · rw [mget_append, mget_two] at hc
    by_cases c2 : c = b
    · rw [c2, hn, if_pos rfl] at hc; simp at hc
    · rw [if_neg c2] at hc
      by_cases c1 : c = v
      · rw [c1, hvn, if_pos rfl] at hc; simp at hc
      · rw [if_neg c1, Option.or_none] at hc; exact x.rt c hc
  · rw [List.take_add_one, hb] at hy
    rcases List.mem_append.mp hy with q | q
    · exact some_left (x.seen y q)
    · simp at q; rw [q, mget_append, mget_two, if_pos rfl, hn]; rfl
end
end Fl

namespace Fl
open PySem PySem.W PySem.Calls PyProof.Rows

section
variable {prog : Program} {w : World} {A : Around} {E : Value → Shared → Prop} {s s' s₀ : Shared} {h₀ h₁ : Heap} {env : Env} {ρ ρ' : Rho} {Λ Λ' : List (Addr × Obj)} {b : Bool} {K : Frag}
end
end Fl

namespace Fl
open PySem PySem.W PySem.Calls PyProof.Rows PyProof.V

section
variable {prog : Program} {w : World} {A : Around} {E : Value → Shared → Prop} {s s' s₀ : Shared} {h₀ h₁ : Heap} {env : Env} {ρ ρ' : Rho} {Λ Λ' : List (Addr × Obj)} {b : Bool} {K : Frag} {α : Type} {Rv : α → Value → Prop} {m m' : Mp α} {d d' : Addr} {od od' : Obj}
/-- the keys of a dict in their order -/
theorem d_sorted {Q : Value → Shared → Prop} (S : CS true s₀ h₀ env ρ Λ s) (hh : A.handled = none) (e : s.heap.get? d = some od) (D : DG prog w Rv od m) (hd : (d == sysModules) = false) (hn : m.length ≤ 16777216)
    (h : ∀ l out k ns s', IntsAre out.toList ns → ns.Perm (m.map (·.1)) → ns.Pairwise (· ≤ ·) → CS true s₀ h₀ env ρ ((l, lst out k) :: Λ) s' → s.heap.get? l = none → Q (.ref l) s') : wpAny (model prog w) A (call (.builtin "sorted") [.ref d]) Q E s := by
  obtain ⟨kvs, x, p⟩ := D.at e
  obtain ⟨ep, hat⟩ := x.dictAt
  have hkl : kvs.length ≤ sizeLine := by rw [p.length, sizeLine_eq]; exact hn
  refine Calls.call_function_entry kind_sorted plain_sorted entry_sorted (args_sorted1 _) ?_
  unfold Builtin.«sorted»
  refine wpAny_bind (m := checkCount "sorted" 1 1 _) (wpAny_pure ?_)
  refine wpAny_bind (kdu_collect (A := A.in1) (kdl_dict (knd := intKind prog w) (kvs := kvs) (ep := ep) hd) hh hat hkl fun h' tk acc hk hacc => ?_)
  have hl : acc.toList.length = kvs.length := by rw [Array.length_toList]; exact hacc.1
  have hI := ints_keys (prog := prog) (w := w) p acc.toList hl fun j v q => hacc.2 j v (by rw [← Array.getElem?_toList]; exact q)
  refine wpAny_bind (wpAny_newList ?_ (by rw [hl]; exact hkl))
  have q : (h'.push (seqObj "list" acc.toList.toArray 0)).get? h'.objs.size = some (seqObj "list" acc.toList.toArray 0) := Heap.get?_push_size _ rfl
  have hfresh : s.heap.get? h'.objs.size = none := Sub.none hk (fresh_none (Nat.le_refl _))
  refine wpAny_bind (wpAny_holding (wpAny_call_entry slot_list_sort ⟨_, q, rfl⟩ entry_list_sort (sort_tree q hI (by rw [hl, p.length]; exact hn) fun out ns' b1 b2 b3 => ⟨_, rfl, ?_⟩) (args_list_sort _)))
  obtain ⟨k, hk2⟩ := sortedHeap_at (out := out) q
  refine wpAny_pure ⟨_, rfl, h _ out k ns' _ b1 b2 b3 (S.new (wr := []) (tk := tk) rfl (fun a o _ z => ?_) (fun _ h => nomatch h) (fun _ h => nomatch h) hfresh hk2) hfresh⟩
  have z' := hk a o z
  have ha : a < h'.objs.size := Heap.lt_size z'
  rw [sortedHeap_old (Nat.ne_of_lt ha) (by rw [size_push']; exact Nat.lt_succ_of_lt ha)]
  exact Heap.get?_push_of_some _ z'

/-- two dicts that hold the same -/
theorem keys_len {β : Type} {m : Mp α} {m' : Mp β} (nd : (m.map (·.1)).Nodup) (nd' : (m'.map (·.1)).Nodup) (h : ∀ x, (mget m x).isSome = (mget m' x).isSome) : m.length = m'.length := by
  have sub : ∀ {γ δ : Type} {a : Mp γ} {b : Mp δ}, (a.map (·.1)).Nodup → (∀ x, (mget a x).isSome = (mget b x).isSome) → a.length ≤ b.length := fun {γ δ a b} nd h => by
    rw [← List.length_map (f := (·.1)) (as := a), ← List.length_map (f := (·.1)) (as := b)]
    refine nodup_len nd fun c hc => ?_
    cases e : mget b c with
    | some v => exact List.mem_map.mpr ⟨(c, v), mget_mem e, rfl⟩
    | none =>
      have := h c
      rw [e] at this
      have hn : mget a c = none := by simpa using this
      exact absurd hc (mget_none_iff.mp hn)
  exact Nat.le_antisymm (sub nd h) (sub nd' fun x => (h x).symm)
theorem hits_same {enc : α → PyData} (hf : ∀ a x, Rv a x → Flat x (enc a)) (hs : ∀ a, PyData.eqv (enc a) (enc a) = true) {kb : List (Int × Value)} (pb : Prs Rv kb m') : ∀ {ka : List (Int × Value)} {n : Mp α}, Prs Rv ka n → (∀ q ∈ n, mget m' q.1 = some q.2) → KeqHits A s kb ka true := by
  intro ka n p
  induction p with
  | nil => intro _; exact .nil
  | @cons k a x r n hx _ ih =>
    intro h
    have hk := h (k, a) (List.mem_cons_self ..)
    rcases pb.get k with ⟨y, a', e1, e2, ry⟩ | ⟨_, e2⟩
    · rw [hk] at e2; cases e2
      have he := keq_flat (A := A) (s := s) (hf a x hx) (hf a y ry)
      rw [hs] at he
      exact KeqHits.hit e1 he (ih fun q hq => h q (List.mem_cons_of_mem _ hq))
    · rw [hk] at e2; cases e2
theorem d_eqT {enc : α → PyData} {Q : Value → Shared → Prop} (hf : ∀ a x, Rv a x → Flat x (enc a)) (hs : ∀ a, PyData.eqv (enc a) (enc a) = true) (e : s.heap.get? d = some od) (D : DG prog w Rv od m) (hd : (d == sysModules) = false) (e' : s.heap.get? d' = some od') (D' : DG prog w Rv od' m') (hd' : (d' == sysModules) = false)
    (hu : A.units < cLine) (ext : ∀ x, mget m x = mget m' x) (h : Q (.bool true) s) : wpAny (model prog w) A (compareOp .Eq (.ref d) (.ref d')) Q E s := by
  have nd := D.nodup
  have nd' := D'.nodup
  obtain ⟨kvs, x, p⟩ := D.at e
  obtain ⟨kvs', x', p'⟩ := D'.at e'
  have hl : kvs.length = kvs'.length := by rw [p.length, p'.length]; exact keys_len nd nd' fun z => by rw [ext]
  refine keq_eq hd hd' x x' hu (fun _ => hits_same hf hs p' p fun q hq => by rw [← ext]; exact mget_of_mem nd hq) ?_
  rw [hl]; simpa using h
theorem d_neF {enc : α → PyData} {Q : Value → Shared → Prop} (hf : ∀ a x, Rv a x → Flat x (enc a)) (hs : ∀ a, PyData.eqv (enc a) (enc a) = true) (e : s.heap.get? d = some od) (D : DG prog w Rv od m) (hd : (d == sysModules) = false) (e' : s.heap.get? d' = some od') (D' : DG prog w Rv od' m') (hd' : (d' == sysModules) = false)
    (hu : A.units < cLine) (ext : ∀ x, mget m x = mget m' x) (h : Q (.bool false) s) : wpAny (model prog w) A (compareOp .NotEq (.ref d) (.ref d')) Q E s := by
  have nd := D.nodup
  have nd' := D'.nodup
  obtain ⟨kvs, x, p⟩ := D.at e
  obtain ⟨kvs', x', p'⟩ := D'.at e'
  have hl : kvs.length = kvs'.length := by rw [p.length, p'.length]; exact keys_len nd nd' fun z => by rw [ext]
  refine keq_ne hd hd' x x' hu (fun _ => hits_same hf hs p' p fun q hq => by rw [← ext]; exact mget_of_mem nd hq) ?_
  rw [hl]; simpa using h
theorem fl_int (a : Int) (x : Value) (h : RInt a x) : Flat x (.int a) := by
  obtain ⟨t, rfl⟩ := h
  exact fun _ => Reads.int _ _
def encO : Option Int → PyData
  | none => .none
  | some a => .int a
theorem fl_opt (a : Option Int) (x : Value) (h : ROpt a x) : Flat x (encO a) := by
  cases a with
  | none => cases h; exact fun _ => Reads.none
  | some a => obtain ⟨t, rfl⟩ := h; exact fun _ => Reads.int _ _
theorem eqv_int (a : Int) : PyData.eqv (.int a) (.int a) = true := by simp [PyData.eqv]
theorem eqv_opt (a : Option Int) : PyData.eqv (encO a) (encO a) = true := by cases a <;> simp [PyData.eqv, encO]
/-- a loop over a dict's keys -/
theorem it_dict {Q : Value → Shared → Prop} (S : CS true s₀ h₀ env ρ Λ s) (hh : A.handled = none) (e : h₀.get? d = some od) (D : DG prog w Rv od m) (hd : (d == sysModules) = false)
    (h : ∀ it s', It prog w A s₀ h₀ env ρ Λ m.length (fun i v => ∃ k t, (m.map (·.1))[i]? = some k ∧ v = .int k t) it s' → Q it s') : wpAny (model prog w) A (pyIter (.ref d)) Q E s := by
  obtain ⟨kvs, x, p⟩ := D.at (S.atBase e)
  obtain ⟨ep, hat⟩ := x.dictAt
  have hlt : d < s.heap.objs.size := Heap.lt_size (S.atBase e)
  have W := Walks.dictKeys (prog := prog) (w := w) (knd := intKind prog w) (A := A) hh s.heap.objs.size d (Nat.ne_of_lt hlt) kvs ep
  refine wpAny_pyIter_dict hd hat (h _ _ ⟨s.heap.objs.size, [s.heap.objs.size, d], [s.heap.objs.size], (fun i h => h.IsKeyIter s.heap.objs.size d i kvs.length ep ∧ Heap.DictAt (intKind prog w) h d kvs ep), rfl, ?W, ⟨⟨_, Heap.get?_push_size _ rfl, rfl, rfl⟩, hat.push _⟩, fun a ha => ?_, fun a ha => ?_, fun a ha ho' => ?_, S.pushK _ _⟩)
  case W =>
    rw [← p.length]
    refine ⟨W.sub, W.frame, fun i s Q E hi st hQ => W.item i s Q E hi st fun v h' tk hP => hQ v h' tk ?_, W.done, W.self⟩
    obtain ⟨k, y, e1, e2⟩ := hP
    obtain ⟨t, rfl⟩ := Value.isInt_shape e2
    refine ⟨k, t, ?_, rfl⟩
    rw [← p.keys, List.getElem?_map, e1]; rfl
  · rw [Heap.size_push]
    rcases List.mem_cons.mp ha with rfl | ha
    · exact Nat.lt_succ_self _
    · rw [List.mem_singleton.mp ha]; exact Nat.lt_succ_of_lt hlt
  · rw [List.mem_singleton.mp ha]
    exact S.base.none (fresh_none (Nat.le_refl _))
  · rcases List.mem_cons.mp ha with rfl | ha
    · obtain ⟨o', q⟩ := S.own_at ho'
      exact absurd (Heap.lt_size q) (Nat.lt_irrefl _)
    · rw [List.mem_singleton.mp ha] at ho'
      rw [S.own_no ho'] at e; cases e
end
end Fl

namespace Fl
open PySem PySem.W PySem.Calls PyProof.Rows PyProof.V

theorem dedup_nodup : ∀ (l σ : List Int), l.Nodup → (∀ x ∈ l, x ∉ σ) → (l.foldl step_dedup σ).length = σ.length + l.length
  | [], σ, _, _ => by simp
  | x :: r, σ, nd, h => by
    rw [List.nodup_cons] at nd
    have hx : σ.any (· == x) = false := by
      rw [List.any_eq_false]
      intro y hy q
      have := beq_iff_eq.mp q
      subst this
      exact h y (List.mem_cons_self ..) hy
    have e : step_dedup σ x = σ ++ [x] := by unfold step_dedup; rw [hx]; simp
    rw [List.foldl_cons, e, dedup_nodup r _ nd.2 fun y hy hm => ?_]
    · rw [List.length_append, List.length_cons, List.length_cons, List.length_nil]; (first | lia | omega)
    · rcases List.mem_append.mp hm with q | q
      · exact h y (List.mem_cons_of_mem _ hy) q
      · rw [List.mem_singleton.mp q] at hy; exact nd.1 hy
theorem firstMet_nodup {ns : List Int} (nd : ns.Nodup) : (firstMet (fun i => ns.getD i 0) ns.length).length = ns.length := by
  unfold firstMet
  have e : (List.range ns.length).map (fun i => ns.getD i 0) = ns := by
    apply List.ext_getElem?
    intro j
    rw [List.getElem?_map]
    by_cases hj : j < ns.length
    · rw [List.getElem?_range hj, List.getElem?_eq_getElem hj]
      simp [List.getD, hj]
    · rw [List.getElem?_eq_none (by simpa using Nat.le_of_not_lt hj), List.getElem?_eq_none (by (first | lia | omega))]; rfl
  rw [e, dedup_nodup ns [] nd fun _ _ h => nomatch h]
  simp

section
variable {prog : Program} {w : World} {A : Around} {E : Value → Shared → Prop} {s s' s₀ : Shared} {h₀ h₁ : Heap} {env : Env} {ρ ρ' : Rho} {Λ Λ' : List (Addr × Obj)} {b : Bool} {K : Frag} {α : Type} {Rv : α → Value → Prop} {m m' : Mp α} {d d' : Addr} {od od' : Obj}
/-- len(set(xs)), xs without equals -/
def SetN (prog : Program) (w : World) (o : Obj) (n : Nat) : Prop := ∃ S, o.SetObjOf (intKind prog w) S n
theorem r_set {l : Addr} {ns : List Int} {Q : Value → Shared → Prop} (S : CS true s₀ h₀ env ρ Λ s) (hh : A.handled = none) (hl : IntL s.heap l ns) (hn : ns.length ≤ 1000) (nd : ns.Nodup)
    (h : ∀ a o s', SetN prog w o ns.length → CS true s₀ h₀ env ρ ((a, o) :: Λ) s' → Q (.ref a) s') : wpAny (model prog w) A (call (.type "set") [.ref l]) Q E s := by
  obtain ⟨vs, hv, hi⟩ := hl
  have hz : vs.toArray.size = ns.length := by rw [List.size_toArray]; exact hi.length
  refine PySem.call_set_list (items := vs.toArray) (ns := ns) hh hv (by simpa using hi) (by rw [hz]; unfold scanBound; (first | lia | omega)) fun h' tk hS hk => ?_
  rw [hz, firstMet_nodup nd] at hS
  obtain ⟨o, ho, hso⟩ := hS.objOf
  exact h _ o _ ⟨_, hso⟩ (S.new (wr := []) rfl (fun a o _ e => hk a o (Heap.lt_size e) e) (fun _ h => nomatch h) (fun _ h => nomatch h) (fresh_none (Nat.le_refl _)) ho)
theorem s_len {a : Addr} {o : Obj} {n : Nat} {Q : Value → Shared → Prop} (S : CS b s₀ h₀ env ρ Λ s) (e : s.heap.get? a = some o) (hs : SetN prog w o n) (hn : n ≤ 1000) (h : ∀ t s', CS b s₀ h₀ env ρ Λ s' → Q (.int n t) s') : wpAny (model prog w) A (call (.builtin "len") [.ref a]) Q E s := by
  obtain ⟨_, hex, es, ep, t, hd, _, _, hn', hf⟩ := hs
  subst hn'
  exact call_len_set e hex hd hf (by (first | lia | omega)) (h _ _ (S.tok _))
end
end Fl

namespace Fl
open PySem PySem.W PySem.Calls PyProof.Rows

section
variable {may : Int → Int → Bool} {sh : Int → Int} {z : Int} {m : Mp Int} {C : List Int}
/-- what holds of all that is reached: closed under the steps -/
structure Clo (may : Int → Int → Bool) (sh : Int → Int) (z : Int) (m : Mp Int) (C : List Int) (R : Int → Prop) : Prop where
  root : ∀ c ∈ C, mget m c = none → sh c = z → R c
  step : ∀ a b, R a → sh a = z → may a b = true → R b
  mate : ∀ b v, R b → mget m b = some v → R v
/-- the least closed set -/
def Least (may : Int → Int → Bool) (sh : Int → Int) (z : Int) (m : Mp Int) (C : List Int) (c : Int) : Prop := ∀ R, Clo may sh z m C R → R c
theorem WF.sound {F : Mp (Option Int)} (h : WF may sh z m F) (hr : ∀ c, mget F c = some none → c ∈ C) {R : Int → Prop} (K : Clo may sh z m C R) : ∀ c, (mget F c).isSome = true → R c := by
  induction h with
  | nil => intro c h; simp [mget] at h
  | @root F c _ hn hs hm ih =>
    intro x hx
    have hc : R c := K.root c (hr c (by rw [mget_append, hn, mget_one]; simp)) hm hs
    rw [mget_append, mget_one] at hx
    by_cases q : x = c
    · rw [q]; exact hc
    · refine ih (fun y hy => hr y (mget_left hy)) x ?_
      rw [if_neg q] at hx; simpa using hx
  | @leaf F a b _ ha hs hm hn _ ih =>
    have ih' := ih fun y hy => hr y (mget_left hy)
    intro x hx
    rw [mget_append, mget_one] at hx
    by_cases q : x = b
    · rw [q]; exact K.step a b (ih' a ha) hs hm
    · refine ih' x ?_
      rw [if_neg q] at hx; simpa using hx
  | @pair F a b v _ ha hs hm hn hv ih =>
    have ih' := ih fun y hy => hr y (mget_left hy)
    have hb : R b := K.step a b (ih' a ha) hs hm
    intro x hx
    rw [mget_append, mget_two] at hx
    by_cases q : x = b
    · rw [q]; exact hb
    · rw [if_neg q] at hx
      by_cases q2 : x = v
      · rw [q2]; exact K.mate b v hb hv
      · refine ih' x ?_
        rw [if_neg q2] at hx; simpa using hx
theorem Bfs.clo {F : Mp (Option Int)} {W : List Int} (g : Gph may sh) (L : LayM may m) (x : Bfs may sh z m C F W W.length) : Clo may sh z m C fun c => (mget F c).isSome = true := by
  refine ⟨x.r1, fun a b ha hs hm => ?_, fun b v hb hv => ?_⟩
  · have hw := (x.wk a).mpr ⟨ha, hs⟩
    obtain ⟨i, hi, e⟩ := List.mem_iff_getElem.mp hw
    exact x.done i a hi (by rw [List.getElem?_eq_getElem hi, e]) b hm
  · rw [← x.wf.mates g L b v hv]; exact hb
theorem Bfs.least {F : Mp (Option Int)} {W : List Int} (g : Gph may sh) (L : LayM may m) (x : Bfs may sh z m C F W W.length) (c : Int) : (mget F c).isSome = true ↔ Least may sh z m C c :=
  ⟨fun h R K => x.wf.sound x.rt K c h, fun h => h _ (x.clo g L)⟩

/-- the law's own search -/
structure LB (may : Int → Int → Bool) (sh : Int → Int) (z : Int) (m : Mp Int) (C : List Int) (F : Mp Unit) (W : List Int) (p : Nat) : Prop where
  snd : ∀ R, Clo may sh z m C R → ∀ c, (mget F c).isSome = true → R c
  wk : ∀ c, c ∈ W ↔ ((mget F c).isSome = true ∧ sh c = z)
  wn : W.Nodup
  r1 : ∀ c ∈ C, mget m c = none → sh c = z → (mget F c).isSome = true
  mates : ∀ b v, (mget F b).isSome = true → mget m b = some v → (mget F v).isSome = true
  done : ∀ (i : Nat) a, i < p → W[i]? = some a → ∀ b, may a b = true → (mget F b).isSome = true
theorem LB.least {F : Mp Unit} {W : List Int} (x : LB may sh z m C F W W.length) (c : Int) : (mget F c).isSome = true ↔ Least may sh z m C c := by
  refine ⟨fun h R K => x.snd R K c h, fun h => h _ ⟨x.r1, fun a b ha hs hm => ?_, x.mates⟩⟩
  have hw := (x.wk a).mpr ⟨ha, hs⟩
  obtain ⟨i, hi, e⟩ := List.mem_iff_getElem.mp hw
  exact x.done i a hi (by rw [List.getElem?_eq_getElem hi, e]) b hm
/-- the first loop: the bare cells of the shade -/
structure LR (sh : Int → Int) (z : Int) (m : Mp Int) (C : List Int) (i : Nat) (F : Mp Unit) (W : List Int) : Prop where
  keys : ∀ c, (mget F c).isSome = true ↔ c ∈ W
  wk : ∀ c, c ∈ W ↔ (c ∈ C.take i ∧ mget m c = none ∧ sh c = z)
  wn : W.Nodup
theorem LR.start : LR sh z m C 0 [] [] := ⟨fun c => by simp [mget], fun c => by simp, List.nodup_nil⟩
theorem LR.skip {F : Mp Unit} {W : List Int} {i : Nat} {c : Int} (x : LR sh z m C i F W) (hc : C[i]? = some c) (h : ¬ (mget m c = none ∧ sh c = z)) : LR sh z m C (i + 1) F W := by
  refine ⟨x.keys, fun y => ?_, x.wn⟩
  rw [x.wk, List.take_add_one, hc]
  simp only [Option.toList_some, List.mem_append, List.mem_singleton]
  constructor
  · rintro ⟨a, b⟩; exact ⟨.inl a, b⟩
  · rintro ⟨a | rfl, b⟩
    · exact ⟨a, b⟩
    · exact absurd b h
theorem LR.put {F : Mp Unit} {W : List Int} {i : Nat} {c : Int} (nd : C.Nodup) (x : LR sh z m C i F W) (hc : C[i]? = some c) (h1 : mget m c = none) (h2 : sh c = z) : LR sh z m C (i + 1) (mput F c ()) (W ++ [c]) := by
  have hnew : c ∉ W := fun hw => by
    have := ((x.wk c).mp hw).1
    obtain ⟨j, hj, e⟩ := List.mem_iff_getElem.mp this
    rw [List.length_take] at hj
    have : C[j]? = some c := by rw [List.getElem?_eq_getElem (by (first | lia | omega))]; rw [List.getElem_take] at e; rw [e]
    have := nodup_get nd this hc
    (first | lia | omega)
  refine ⟨fun y => ?_, fun y => ?_, ?_⟩
  · rw [mget_mput, List.mem_append, List.mem_singleton, ← x.keys]
    by_cases q : y = c
    · rw [if_pos q]; simp [q]
    · rw [if_neg q]; simp [q]
  · rw [List.mem_append, List.mem_singleton, x.wk, List.take_add_one, hc]
    simp only [Option.toList_some, List.mem_append, List.mem_singleton]
    constructor
    · rintro (⟨a, b⟩ | rfl)
      · exact ⟨.inl a, b⟩
      · exact ⟨.inr rfl, h1, h2⟩
    · rintro ⟨a | rfl, b⟩
      · exact .inl ⟨a, b⟩
      · exact .inr rfl
  · rw [List.nodup_append]
    refine ⟨x.wn, by simp, fun a ha b hb q => ?_⟩
    rw [List.mem_singleton.mp hb] at q
    exact hnew (q ▸ ha)
theorem LR.fin {F : Mp Unit} {W : List Int} (g : Gph may sh) (L : LayM may m) (x : LR sh z m C C.length F W) : LB may sh z m C F W 0 := by
  have hall : ∀ c, c ∈ W ↔ (c ∈ C ∧ mget m c = none ∧ sh c = z) := fun c => by rw [x.wk, List.take_length]
  refine ⟨fun R K c hc => ?_, fun c => ?_, x.wn, fun c h1 h2 h3 => ?_, fun b v hb hv => ?_, fun i a h => absurd h (Nat.not_lt_zero _)⟩
  · obtain ⟨a1, a2, a3⟩ := (hall c).mp ((x.keys c).mp hc)
    exact K.root c a1 a2 a3
  · rw [x.keys]; exact ⟨fun h => ⟨h, ((hall c).mp h).2.2⟩, fun h => h.1⟩
  · exact (x.keys c).mpr ((hall c).mpr ⟨h1, h2, h3⟩)
  · have := ((hall b).mp ((x.keys b).mp hb)).2.1
    rw [hv] at this; cases this
/-- within a turn -/
structure LM (may : Int → Int → Bool) (sh : Int → Int) (z : Int) (m : Mp Int) (C : List Int) (a : Int) (bs : List Int) (p j : Nat) (F : Mp Unit) (W : List Int) : Prop where
  lb : LB may sh z m C F W p
  at_ : W[p]? = some a
  near : ∀ b ∈ bs.take j, (mget F b).isSome = true
theorem LM.start {F : Mp Unit} {W : List Int} {p : Nat} {a : Int} {bs : List Int} (x : LB may sh z m C F W p) (h : W[p]? = some a) : LM may sh z m C a bs p 0 F W := ⟨x, h, fun _ h => by simp at h⟩
theorem LM.fin {F : Mp Unit} {W : List Int} {p : Nat} {a : Int} {bs : List Int} (x : LM may sh z m C a bs p bs.length F W) (hb : ∀ b, may a b = true → b ∈ bs) : LB may sh z m C F W (p + 1) := by
  refine ⟨x.lb.snd, x.lb.wk, x.lb.wn, x.lb.r1, x.lb.mates, fun i c hi hc b hm => ?_⟩
  by_cases q : i < p
  · exact x.lb.done i c q hc b hm
  · obtain rfl : i = p := by (first | lia | omega)
    rw [x.at_] at hc
    cases hc
    exact x.near b (by rw [List.take_length]; exact hb b hm)
theorem some_put {F : Mp Unit} {k c : Int} : (mget (mput F k ()) c).isSome = true ↔ (c = k ∨ (mget F c).isSome = true) := by
  rw [mget_mput]
  by_cases q : c = k
  · rw [if_pos q]; simp [q]
  · rw [if_neg q]; simp [q]
theorem LM.one {F : Mp Unit} {W : List Int} {p j : Nat} {a b : Int} {bs : List Int} (g : Gph may sh) (x : LM may sh z m C a bs p j F W) (hb : bs[j]? = some b) (hm : may a b = true) (hv : ∀ v, mget m b = some v → (mget (mput F b ()) v).isSome = true) : LM may sh z m C a bs p (j + 1) (mput F b ()) W := by
  have ha := (x.lb.wk a).mp (List.mem_of_getElem? x.at_)
  have hne : sh b ≠ z := fun q => g.shade a b hm (by rw [q]; exact ha.2)
  refine ⟨⟨fun R K c hc => ?_, fun c => ?_, x.lb.wn, fun c h1 h2 h3 => some_put.mpr (.inr (x.lb.r1 c h1 h2 h3)), fun c v hc hcv => ?_, fun i c hi hc d hd => some_put.mpr (.inr (x.lb.done i c hi hc d hd))⟩, x.at_, fun c hc => ?_⟩
  · rcases some_put.mp hc with rfl | h
    · exact K.step a c (x.lb.snd R K a ha.1) ha.2 hm
    · exact x.lb.snd R K c h
  · rw [x.lb.wk, some_put]
    constructor
    · rintro ⟨h1, h2⟩; exact ⟨.inr h1, h2⟩
    · rintro ⟨rfl | h1, h2⟩
      · exact absurd h2 hne
      · exact ⟨h1, h2⟩
  · rcases some_put.mp hc with rfl | h
    · exact hv v hcv
    · exact some_put.mpr (.inr (x.lb.mates c v h hcv))
  · rw [List.take_add_one, hb] at hc
    rcases List.mem_append.mp hc with h | h
    · exact some_put.mpr (.inr (x.near c h))
    · simp at h; exact some_put.mpr (.inl h)
theorem LM.two {F : Mp Unit} {W : List Int} {p j : Nat} {a b v : Int} {bs : List Int} (g : Gph may sh) (L : LayM may m) (x : LM may sh z m C a bs p j F W) (hb : bs[j]? = some b) (hm : may a b = true) (hv : mget m b = some v) (hn : mget (mput F b ()) v = none) :
    LM may sh z m C a bs p (j + 1) (mput (mput F b ()) v ()) (W ++ [v]) := by
  have ha := (x.lb.wk a).mp (List.mem_of_getElem? x.at_)
  have hne : sh b ≠ z := fun q => g.shade a b hm (by rw [q]; exact ha.2)
  obtain ⟨hvb, hmv⟩ := L.inv b v hv
  have hvz : sh v = z := by
    have h1 := g.shade b v hmv
    have h2 := g.two b
    have h3 := g.two v
    have h4 := g.two a
    rw [ha.2] at h4
    (first | lia | omega)
  have hbv : b ≠ v := fun q => hne (q ▸ hvz)
  have hvW : v ∉ W := fun h => by
    have := ((x.lb.wk v).mp h).1
    rw [mget_mput, if_neg (Ne.symm hbv)] at hn
    rw [hn] at this; cases this
  have two : ∀ {c : Int}, (mget (mput (mput F b ()) v ()) c).isSome = true ↔ (c = v ∨ c = b ∨ (mget F c).isSome = true) := fun {c} => by rw [some_put, some_put]
  refine ⟨⟨fun R K c hc => ?_, fun c => ?_, ?_, fun c h1 h2 h3 => two.mpr (.inr (.inr (x.lb.r1 c h1 h2 h3))), fun c u hc hcu => ?_, fun i c hi hc d hd => ?_⟩, ?_, fun c hc => ?_⟩
  · have hRb : R b := K.step a b (x.lb.snd R K a ha.1) ha.2 hm
    rcases two.mp hc with rfl | rfl | h
    · exact K.mate b c hRb hv
    · exact hRb
    · exact x.lb.snd R K c h
  · rw [List.mem_append, List.mem_singleton, x.lb.wk, two]
    constructor
    · rintro (⟨h1, h2⟩ | rfl)
      · exact ⟨.inr (.inr h1), h2⟩
      · exact ⟨.inl rfl, hvz⟩
    · rintro ⟨rfl | rfl | h1, h2⟩
      · exact .inr rfl
      · exact absurd h2 hne
      · exact .inl ⟨h1, h2⟩
  · rw [List.nodup_append]
    refine ⟨x.lb.wn, by simp, fun c hc d hd q => ?_⟩
    rw [List.mem_singleton.mp hd] at q
    exact hvW (q ▸ hc)
  · rcases two.mp hc with rfl | rfl | h
    · rw [hvb] at hcu; cases hcu; exact two.mpr (.inr (.inl rfl))
    · rw [hv] at hcu; cases hcu; exact two.mpr (.inl rfl)
    · exact two.mpr (.inr (.inr (x.lb.mates c u h hcu)))
  · have hip : i < W.length := by
      have := (List.getElem?_eq_some_iff.mp x.at_).1; (first | lia | omega)
    rw [List.getElem?_append_left hip] at hc
    exact two.mpr (.inr (.inr (x.lb.done i c hi hc d hd)))
  · rw [List.getElem?_append_left (List.getElem?_eq_some_iff.mp x.at_).1]; exact x.at_
  · rw [List.take_add_one, hb] at hc
    rcases List.mem_append.mp hc with h | h
    · exact two.mpr (.inr (.inr (x.near c h)))
    · simp at h; exact two.mpr (.inr (.inl h))
end
def RTrue (_ : Unit) (x : Value) : Prop := x = .bool true

/-- a laying made anew out of a dict, cell by cell -/
structure Mad (may : Int → Int → Bool) (m : Mp Int) (ks : List Int) (i : Nat) (m' : Mp Int) : Prop where
  lay : LayM may m'
  sub : ∀ x y, mget m' x = some y → mget m x = some y
  on : ∀ c ∈ ks.take i, ∀ v, mget m c = some v → c < v → mget m' c = some v
  off : ∀ c ∈ ks.drop i, ∀ v, mget m c = some v → c < v → mget m' c = none ∧ mget m' v = none
section
variable {may : Int → Int → Bool} {sh : Int → Int} {m m' : Mp Int} {ks : List Int}
theorem Mad.start : Mad may m ks 0 [] := ⟨LayM.nil _, fun _ _ h => by simp [mget] at h, fun _ h => by simp at h, fun _ _ _ _ _ => ⟨rfl, rfl⟩⟩
theorem drop_get {i : Nat} {c : Int} (h : ks[i]? = some c) : ks.drop i = c :: ks.drop (i + 1) := by
  obtain ⟨hi, e⟩ := List.getElem?_eq_some_iff.mp h
  rw [List.drop_eq_getElem_cons hi, e]
theorem Mad.skip {i : Nat} {c v : Int} (x : Mad may m ks i m') (h : ks[i]? = some c) (hv : mget m c = some v) (hlt : ¬ c < v) : Mad may m ks (i + 1) m' := by
  refine ⟨x.lay, x.sub, fun y hy u hu hyu => ?_, fun y hy u hu hyu => x.off y (by rw [drop_get h]; exact List.mem_cons_of_mem _ hy) u hu hyu⟩
  rw [List.take_add_one, h] at hy
  rcases List.mem_append.mp hy with q | q
  · exact x.on y q u hu hyu
  · simp at q; subst q; rw [hv] at hu; cases hu; exact absurd hyu hlt
theorem Mad.put {i : Nat} {c v : Int} (g : Gph may sh) (M : LayM may m) (nd : ks.Nodup) (x : Mad may m ks i m') (h : ks[i]? = some c) (hv : mget m c = some v) (hlt : c < v) :
    may c v = true ∧ mget m' c = none ∧ mget m' v = none ∧ Mad may m ks (i + 1) (mput (mput m' c v) v c) := by
  obtain ⟨hvc, hmay⟩ := M.inv c v hv
  obtain ⟨o1, o2⟩ := x.off c (by rw [drop_get h]; exact List.mem_cons_self ..) v hv hlt
  refine ⟨hmay, o1, o2, x.lay.put g hmay o1 o2, fun a b q => ?_, fun y hy u hu hyu => ?_, fun y hy u hu hyu => ?_⟩
  · rw [mget_mput, mget_mput] at q
    by_cases x1 : a = v
    · rw [if_pos x1] at q; cases q; rw [x1]; exact hvc
    · rw [if_neg x1] at q
      by_cases x2 : a = c
      · rw [if_pos x2] at q; cases q; rw [x2]; exact hv
      · rw [if_neg x2] at q; exact x.sub a b q
  · rw [List.take_add_one, h] at hy
    rw [mget_mput, mget_mput]
    rcases List.mem_append.mp hy with q | q
    · have e := x.on y q u hu hyu
      have y1 : y ≠ v := fun z => by rw [z, o2] at e; cases e
      have y2 : y ≠ c := fun z => by rw [z, o1] at e; cases e
      rw [if_neg y1, if_neg y2]; exact e
    · simp at q; subst q; rw [hv] at hu; cases hu
      rw [if_neg (by (first | lia | omega)), if_pos rfl]
  · have hy0 : y ∈ ks.drop i := by rw [drop_get h]; exact List.mem_cons_of_mem _ hy
    obtain ⟨p1, p2⟩ := x.off y hy0 u hu hyu
    obtain ⟨huy, _⟩ := M.inv y u hu
    have hne : y ≠ c := fun e => by
      have hnd : (ks.drop i).Nodup := nd.sublist (List.drop_sublist ..)
      rw [drop_get h, List.nodup_cons] at hnd
      exact hnd.1 (e ▸ hy)
    have e1 : y ≠ v := fun e => by rw [e, hvc] at hu; cases hu; (first | lia | omega)
    have e2 : u ≠ c := fun e => by rw [e, hv] at huy; cases huy; (first | lia | omega)
    have e3 : u ≠ v := fun e => by rw [e, hvc] at huy; cases huy; exact hne rfl
    refine ⟨?_, ?_⟩
    · rw [mget_mput, mget_mput, if_neg e1, if_neg hne]; exact p1
    · rw [mget_mput, mget_mput, if_neg e3, if_neg e2]; exact p2
theorem Mad.all (g : Gph may sh) (M : LayM may m) (hk : ks.Perm (m.map (·.1))) (x : Mad may m ks ks.length m') : ∀ y, mget m' y = mget m y := by
  have on : ∀ a b, mget m a = some b → a < b → mget m' a = some b := fun a b h hlt =>
    x.on a (by rw [List.take_length]; exact hk.mem_iff.mpr (List.mem_map.mpr ⟨(a, b), mget_mem h, rfl⟩)) b h hlt
  intro y
  cases e : mget m y with
  | none =>
    cases e' : mget m' y with
    | none => rfl
    | some u => have := x.sub y u e'; rw [e] at this; cases this
  | some u =>
    obtain ⟨h1, h2⟩ := M.inv y u e
    have hne := g.ne h2
    by_cases q : y < u
    · exact on y u e q
    · have := on u y h1 (by (first | lia | omega))
      exact (x.lay.inv u y this).1
end
end Fl

namespace Fl
open PySem PySem.W PySem.Calls PyProof.Rows

theorem sorted_eq : ∀ {l k : List Int}, l.Perm k → l.Pairwise (· ≤ ·) → k.Pairwise (· ≤ ·) → l = k
  | [], k, p, _, _ => (List.nil_perm.mp p).symm
  | x :: r, [], p, _, _ => absurd p.length_eq (by simp)
  | x :: r, y :: q, p, h1, h2 => by
    rw [List.pairwise_cons] at h1 h2
    have hx : x ∈ y :: q := p.mem_iff.mp (List.mem_cons_self ..)
    have hy : y ∈ x :: r := p.mem_iff.mpr (List.mem_cons_self ..)
    have e : x = y := by
      rcases List.mem_cons.mp hx with h | h
      · exact h
      · rcases List.mem_cons.mp hy with h' | h'
        · exact h'.symm
        · exact Int.le_antisymm (h1.1 y h') (h2.1 x h)
    subst e
    rw [sorted_eq (List.perm_cons x |>.mp p) h1.2 h2.2]
end Fl

set_option Elab.async false
set_option linter.all false
namespace Fl
section
variable {may : Int → Int → Bool} {sh : Int → Int} {z : Int} {m : Mp Int} {F : Mp (Option Int)}
/-- a way from a bare cell, as the law looks at it -/
structure WayOk (m : Mp Int) (F : Mp (Option Int)) (c : Int) (W : List Int) : Prop where
  pos : 0 < W.length
  last : W.getD (W.length - 1) 0 = c
  nd : W.Nodup
  bare : mget m (W.getD 0 0) = none
  root : mget F (W.getD 0 0) = some none
  step : ∀ k, 1 ≤ k → k < W.length → mget F (W.getD k 0) = some (some (W.getD (k - 1) 0))
  mate : ∀ k, 1 ≤ k → k < W.length → k % 2 = 0 → mget m (W.getD (k - 1) 0) = some (W.getD k 0)
theorem getD_left {W : List Int} {b : Int} {k : Nat} (h : k < W.length) : (W ++ [b]).getD k 0 = W.getD k 0 := by
  rw [List.getD_eq_getElem?_getD, List.getD_eq_getElem?_getD, List.getElem?_append_left h]
theorem getD_end (W : List Int) (b : Int) : (W ++ [b]).getD W.length 0 = b := by
  rw [List.getD_eq_getElem?_getD, List.getElem?_append_right (Nat.le_refl _)]; simp
theorem WayOk.snoc {a b : Int} {W : List Int} (x : WayOk m F a W) (hF : mget F b = some (some a)) (hb : b ∉ W) (hm : W.length % 2 = 0 → mget m a = some b) : WayOk m F b (W ++ [b]) := by
  have hp := x.pos
  have hlen : (W ++ [b]).length = W.length + 1 := by simp
  refine ⟨by (first | lia | omega), ?_, ?_, ?_, ?_, ?_, ?_⟩
  · rw [hlen, Nat.add_sub_cancel, getD_end]
  · rw [List.nodup_append]
    exact ⟨x.nd, by simp, fun p hp q hq e => hb (by rw [← List.mem_singleton.mp hq, ← e]; exact hp)⟩
  · rw [getD_left hp]; exact x.bare
  · rw [getD_left hp]; exact x.root
  · intro k h1 h2
    by_cases e : k = W.length
    · subst e
      rw [getD_end, getD_left (by (first | lia | omega)), x.last]; exact hF
    · rw [getD_left (by (first | lia | omega)), getD_left (by (first | lia | omega))]; exact x.step k h1 (by (first | lia | omega))
  · intro k h1 h2 h3
    by_cases e : k = W.length
    · subst e
      rw [getD_end, getD_left (by (first | lia | omega)), x.last]; exact hm h3
    · rw [getD_left (by (first | lia | omega)), getD_left (by (first | lia | omega))]; exact x.mate k h1 (by (first | lia | omega)) h3
theorem Pth.ok {c : Int} {P : List Int} (g : Gph may sh) (L : LayM may m) (h : Pth may sh z m F c P) : WayOk m F c P.reverse ∧ (sh c = z ↔ P.length % 2 = 1) := by
  induction h with
  | root e hs hb => exact ⟨⟨by simp, by simp, by simp, by simpa using hb, by simpa using e, fun k h1 h2 => by simp at h2; (first | lia | omega), fun k h1 h2 => by simp at h2; (first | lia | omega)⟩, by simp [hs]⟩
  | @leaf a b P e hs hm hni p ih =>
    have hp := ih.2.mp hs
    have hne : sh b ≠ z := fun q => g.shade a b hm (hs.trans q.symm)
    refine ⟨?_, ?_⟩
    · rw [List.reverse_cons]
      exact ih.1.snoc e (by simpa using hni) (fun q => by rw [List.length_reverse] at q; (first | lia | omega))
    · rw [List.length_cons]
      exact ⟨fun q => absurd q hne, fun q => by (first | lia | omega)⟩
  | @mate b v P e hm hs hni p ih =>
    have hne : sh b ≠ z := fun q => g.shade b v (L.inv b v hm).2 (q.trans hs.symm)
    have hp : ¬ P.length % 2 = 1 := fun q => hne (ih.2.mpr q)
    refine ⟨?_, ?_⟩
    · rw [List.reverse_cons]
      exact ih.1.snoc e (by simpa using hni) (fun _ => hm)
    · rw [List.length_cons]
      exact ⟨fun _ => by (first | lia | omega), fun _ => hs⟩
/-- what stands ahead of a cell that is met -/
inductive Lnk (may : Int → Int → Bool) (sh : Int → Int) (z : Int) (m : Mp Int) (F : Mp (Option Int)) (c : Int) : Option Int → Prop
  | root : sh c = z → mget m c = none → Lnk may sh z m F c none
  | leaf {a : Int} : sh c ≠ z → (mget F a).isSome = true → may a c = true → Lnk may sh z m F c (some a)
  | mate {v : Int} : sh c = z → mget m c = some v → Lnk may sh z m F c (some v)
theorem WF.lnk (g : Gph may sh) (L : LayM may m) (h : WF may sh z m F) {c : Int} {x : Option Int} (e : mget F c = some x) : Lnk may sh z m F c x := by
  obtain ⟨P, p⟩ := h.path g L c x e
  cases p with
  | root e' hs hb => cases e.symm.trans e'; exact .root hs hb
  | @leaf a _ P' e' hs hm hni p' =>
    cases e.symm.trans e'
    exact .leaf (fun q => g.shade a c hm (hs.trans q.symm)) (p'.in_ a (by cases p' <;> simp)) hm
  | @mate b _ P' e' hm hs hni p' =>
    cases e.symm.trans e'
    exact .mate hs (L.inv b c hm).1
theorem Lnk.ext {m' : Mp Int} {c : Int} {x : Option Int} (e : ∀ y, mget m' y = mget m y) (h : Lnk may sh z m' F c x) : Lnk may sh z m F c x := by
  cases h with
  | root a b => exact .root a (by rw [← e]; exact b)
  | leaf a b c => exact .leaf a b c
  | mate a b => exact .mate a (by rw [← e]; exact b)
theorem WayOk.ext {m' : Mp Int} {c : Int} {W : List Int} (e : ∀ y, mget m' y = mget m y) (h : WayOk m' F c W) : WayOk m F c W :=
  ⟨h.pos, h.last, h.nd, by rw [← e]; exact h.bare, h.root, h.step, fun k a b c => by rw [← e]; exact h.mate k a b c⟩
theorem keys_perm {α β : Type} {m : Mp α} {n : Mp β} (h1 : (m.map (·.1)).Nodup) (h2 : (n.map (·.1)).Nodup) (e : ∀ c, (mget m c).isSome = (mget n c).isSome) : (m.map (·.1)).Perm (n.map (·.1)) := by
  refine (List.perm_ext_iff_of_nodup h1 h2).mpr fun c => ?_
  have a := mget_none_iff (m := m) (k := c)
  have b := mget_none_iff (m := n) (k := c)
  have := e c
  cases p : mget m c <;> cases q : mget n c <;> rw [p, q] at this <;> simp_all
theorem Clo.least_ext {C : List Int} {m' : Mp Int} (e : ∀ x, mget m' x = mget m x) (c : Int) : Least may sh z m' C c ↔ Least may sh z m C c := by
  have clo : ∀ {a b : Mp Int}, (∀ x, mget a x = mget b x) → ∀ R, Clo may sh z a C R → Clo may sh z b C R := fun e R K => ⟨fun c h1 h2 h3 => K.root c h1 (by rw [e]; exact h2) h3, K.step, fun b v h1 h2 => K.mate b v h1 (by rw [e]; exact h2)⟩
  exact ⟨fun h R K => h R (clo (fun x => (e x).symm) R K), fun h R K => h R (clo e R K)⟩
end
end Fl

namespace Fl
open PySem PySem.W PySem.Calls PyProof.Rows PyProof.V

section
variable {prog : Program} {w : World} {A : Around} {E : Value → Shared → Prop} {s s' s₀ : Shared} {h₀ h₁ : Heap} {env : Env} {ρ ρ' : Rho} {Λ Λ' : List (Addr × Obj)} {b : Bool} {K : Frag} {α : Type} {Rv : α → Value → Prop} {m m' : Mp α} {d d' : Addr} {od od' : Obj}
/-- d.get(k), a key that is there -/
theorem d_get {k : Int} {tk : Tok} {a : α} {Q : Value → Shared → Prop} (S : CS b s₀ h₀ env ρ Λ s) (e : s.heap.get? d = some od) (D : DG prog w Rv od m) (hd : (d == sysModules) = false) (hk : mget m k = some a)
    (h : ∀ x s', Rv a x → CS b s₀ h₀ env ρ Λ s' → Q x s') : wpAny (model prog w) A (call (.builtin "dict.get") [.ref d, .int k tk]) Q E s := by
  obtain ⟨kvs, y, p⟩ := D.at e
  rcases p.get k with ⟨x, a', e1, e2, r⟩ | ⟨_, e2⟩
  · rw [hk] at e2; cases e2
    refine call_meetsIn PySem.F.slot_dict_get y.typeIs PySem.F.entry_dict_get (PySem.F.args_dict_get_2 _ _) (meets_dict_get (intKind prog w) d (intKind_is ..) hd) ⟨_, y.mapOf, ?_⟩
    rw [e1]
    exact h x _ r (S.tok _)
  · rw [hk] at e2; cases e2
theorem y_dict {Q : Value → Shared → Prop} (e : s.heap.get? d = some od) (D : DG prog w Rv od m) (h : Q (.bool true) s) : wpAny (model prog w) A (call (.builtin "isinstance") [.ref d, .type "dict"]) Q E s := by
  obtain ⟨kvs, ⟨_, _, hx, _, _, _, _⟩, p⟩ := D
  exact PySem.IsiPair.dict_dict e hx.1 h
theorem r_range1 {n : Int} {t u : Tok} {Q : Value → Shared → Prop} (S : CS b s₀ h₀ env ρ Λ s) (h : ∀ r t₁ u₁ v₁ s', IsRange s'.heap r 1 n 1 t₁ u₁ v₁ → CS b s₀ h₀ env ρ Λ s' → Q (.ref r) s') : wpAny (model prog w) A (call (.type "range") [.int 1 u, .int n t]) Q E s :=
  PySem.call_range_2 (h _ _ _ _ _ (Heap.get?_push_size _ rfl) (S.pushK _ _))
theorem it_range1 {r : Addr} {n : Int} {t u v : Tok} {Q : Value → Shared → Prop} (S : CS true s₀ h₀ env ρ Λ s) (hh : A.handled = none) (hr : IsRange s.heap r 1 n 1 t u v) (hn : n < 2 ^ 62) (hn' : 1 ≤ n)
    (h : ∀ it s', It prog w A s₀ h₀ env ρ Λ (n - 1).toNat (fun i v => ∃ t, v = .int ((i : Int) + 1) t) it s' → Q it s') : wpAny (model prog w) A (pyIter (.ref r)) Q E s := by
  have hsm : Builtin.Range.small 1 n 1 = true := small_one (by decide) (by decide) (by (first | lia | omega)) hn
  refine wpAny_pyIter_range hr hsm (h _ _ ⟨s.heap.objs.size, [s.heap.objs.size], [s.heap.objs.size], (fun i h => IsRangeIter h s.heap.objs.size (1 + (i : Nat) * 1) (((n - 1).toNat : Int) - (i : Nat)) 1), rfl, ?W, ?st, ?_, ?_, ?_, S.pushK _ _⟩)
  case W =>
    have := Walks.range (prog := prog) (w := w) hh s.heap.objs.size 1 1 (n - 1).toNat
    exact ⟨this.sub, this.frame, fun i s Q E hi st hQ => this.item i s Q E hi st fun v h' tk hP => hQ v h' tk (by obtain ⟨t, e⟩ := hP; exact ⟨t, by rw [e]; congr 1; (first | lia | omega)⟩), this.done, this.self⟩
  case st =>
    show IsRangeIter _ _ _ _ _
    have e : Builtin.Range.rangeSize 1 n 1 = ((n - 1).toNat : Int) := by
      rw [rangeSize_one]; split <;> (first | lia | omega)
    rw [e]
    have : (1 : Int) + ((0 : Nat) : Int) * 1 = 1 := by (first | lia | omega)
    rw [this]
    have : (((n - 1).toNat : Nat) : Int) - ((0 : Nat) : Int) = (((n - 1).toNat : Nat) : Int) := by (first | lia | omega)
    rw [this]
    exact Heap.get?_push_size _ rfl
  · intro a ha
    rw [List.mem_singleton.mp ha, Heap.size_push]; exact Nat.lt_succ_self _
  · intro a ha
    rw [List.mem_singleton.mp ha]
    exact S.base.none (fresh_none (Nat.le_refl _))
  · intro a ha ho'
    rw [List.mem_singleton.mp ha] at ho'
    obtain ⟨o', q⟩ := S.own_at ho'
    exact absurd (Heap.lt_size q) (Nat.lt_irrefl _)
/-- d.clear(): the dict is let go -/
theorem d_clear {Q : Value → Shared → Prop} (S : CS true s₀ h₀ env ρ ((d, od) :: Λ) s) (D : DG prog w Rv od m) (hn : m.length ≤ 16777216)
    (h : ∀ s', CS true s₀ h₀ env ρ Λ s' → Q .none s') : wpAny (model prog w) A (call (.builtin "dict.clear") [.ref d]) Q E s := by
  obtain ⟨kvs, y, p⟩ := D.at (S.atLed (List.mem_cons_self ..))
  refine call_meetsIn PySem.F.slot_dict_clear y.typeIs PySem.F.entry_dict_clear (PySem.F.args_dict_clear_1 _) (meets_dict_clear (intKind prog w) d) ⟨kvs, y, by rw [p.length, sizeLine_eq]; exact hn, fun h' y' hs => ?_⟩
  obtain ⟨o', ho', hd'⟩ := Heap.dictOf_iff.mp y'
  exact h _ ((S.chgD (tk' := s.toks) .head hs ho').tl rfl)
end
end Fl

set_option maxRecDepth 100000
set_option Elab.async false
set_option autoImplicit false
set_option linter.all false
set_option maxHeartbeats 8000000
namespace Fl
open PySem PySem.W PySem.Calls PyProof.Rows

theorem fill : PySem.Challenge.rw_uf030040_06 = PySem.Challenge.rw_uf030040_06 ∧ Fl.kH = Fl.kH := by
  k_fill
  exact ⟨rfl, rfl⟩
theorem gb_len (w : World) : GB (Fl.kH w.params) (Str.ofString "len") (.builtin "len") := ⟨by kernel_rfl, by kernel_rfl, by decide +kernel, by kernel_rfl⟩
theorem gb_min (w : World) : GB (Fl.kH w.params) (Str.ofString "min") (.builtin "min") := ⟨by kernel_rfl, by kernel_rfl, by decide +kernel, by kernel_rfl⟩
theorem gb_max (w : World) : GB (Fl.kH w.params) (Str.ofString "max") (.builtin "max") := ⟨by kernel_rfl, by kernel_rfl, by decide +kernel, by kernel_rfl⟩
theorem gb_abs (w : World) : GB (Fl.kH w.params) (Str.ofString "abs") (.builtin "abs") := ⟨by kernel_rfl, by kernel_rfl, by decide +kernel, by kernel_rfl⟩
theorem gb_isi (w : World) : GB (Fl.kH w.params) (Str.ofString "isinstance") (.builtin "isinstance") := ⟨by kernel_rfl, by kernel_rfl, by decide +kernel, by kernel_rfl⟩
theorem gb_range (w : World) : GB (Fl.kH w.params) (Str.ofString "range") (.type "range") := ⟨by kernel_rfl, by kernel_rfl, by decide +kernel, by kernel_rfl⟩
theorem gb_list (w : World) : GB (Fl.kH w.params) (Str.ofString "list") (.type "list") := ⟨by kernel_rfl, by kernel_rfl, by decide +kernel, by kernel_rfl⟩
theorem gb_int (w : World) : GB (Fl.kH w.params) (Str.ofString "int") (.type "int") := ⟨by kernel_rfl, by kernel_rfl, by decide +kernel, by kernel_rfl⟩
theorem gb_bool (w : World) : GB (Fl.kH w.params) (Str.ofString "bool") (.type "bool") := ⟨by kernel_rfl, by kernel_rfl, by decide +kernel, by kernel_rfl⟩
theorem gs_ALONG (w : World) : GS (Fl.kH w.params) (Str.ofString "ALONG") ⟨#[46, 45]⟩ := ⟨by kernel_rfl, by kernel_rfl⟩
theorem gs_ACROSS (w : World) : GS (Fl.kH w.params) (Str.ofString "ACROSS") ⟨#[46, 124]⟩ := ⟨by kernel_rfl, by kernel_rfl⟩
theorem gs_SIGNS (w : World) : GS (Fl.kH w.params) (Str.ofString "SIGNS") ⟨#[46, 45, 124, 35]⟩ := ⟨by kernel_rfl, by kernel_rfl⟩
theorem gi_MOST (w : World) : GI (Fl.kH w.params) (Str.ofString "MOST") 12 := ⟨by kernel_rfl, by kernel_rfl⟩
theorem gf_sizes (w : World) : GF (Fl.kH w.params) (Str.ofString "look_at_sizes") 139 := ⟨by kernel_rfl, by kernel_rfl, by kernel_rfl⟩
theorem st_rows (w : World) : storeIn (Fl.kH w.params) 196 (Str.ofString "rows") = true := by kernel_rfl
theorem fi_rows (w : World) : fieldIn (Fl.kH w.params) 196 (Str.ofString "rows") = true := by kernel_rfl
theorem fi_high (w : World) : fieldIn (Fl.kH w.params) 196 (Str.ofString "high") = true := by kernel_rfl
theorem fi_wide (w : World) : fieldIn (Fl.kH w.params) 196 (Str.ofString "wide") = true := by kernel_rfl
theorem me_sign_of (w : World) : methIn (Fl.kH w.params) 196 (Str.ofString "sign_of") 160 = true := by kernel_rfl
theorem mk_sign_of (w : World) : keepIn (Fl.kH w.params) (.ref 160) = true := methIn_keep (me_sign_of w)
theorem me_has (w : World) : methIn (Fl.kH w.params) 196 (Str.ofString "has") 167 = true := by kernel_rfl
theorem mk_has (w : World) : keepIn (Fl.kH w.params) (.ref 167) = true := methIn_keep (me_has w)
theorem me_may (w : World) : methIn (Fl.kH w.params) 196 (Str.ofString "may") 186 = true := by kernel_rfl
theorem mk_may (w : World) : keepIn (Fl.kH w.params) (.ref 186) = true := methIn_keep (me_may w)
theorem me_cells (w : World) : methIn (Fl.kH w.params) 196 (Str.ofString "cells") 172 = true := by kernel_rfl
theorem mk_cells (w : World) : keepIn (Fl.kH w.params) (.ref 172) = true := methIn_keep (me_cells w)
theorem gf_cell_at (w : World) : GF (Fl.kH w.params) (Str.ofString "_law_cell_at") 268 := ⟨by kernel_rfl, by kernel_rfl, by kernel_rfl⟩
theorem gf_number (w : World) : GF (Fl.kH w.params) (Str.ofString "_law_number") 275 := ⟨by kernel_rfl, by kernel_rfl, by kernel_rfl⟩
theorem gf_rows (w : World) : GF (Fl.kH w.params) (Str.ofString "_law_rows") 280 := ⟨by kernel_rfl, by kernel_rfl, by kernel_rfl⟩
theorem gf_cells (w : World) : GF (Fl.kH w.params) (Str.ofString "_law_cells") 292 := ⟨by kernel_rfl, by kernel_rfl, by kernel_rfl⟩
theorem gf_Floor (w : World) : GF (Fl.kH w.params) (Str.ofString "Floor") 196 := ⟨by kernel_rfl, by kernel_rfl, by kernel_rfl⟩

theorem gf_whole (w : World) : GF (Fl.kH w.params) (Str.ofString "_law_whole") 304 := ⟨by kernel_rfl, by kernel_rfl, by kernel_rfl⟩
theorem gf_lmay (w : World) : GF (Fl.kH w.params) (Str.ofString "_law_may") 287 := ⟨by kernel_rfl, by kernel_rfl, by kernel_rfl⟩
theorem gf_lbeside (w : World) : GF (Fl.kH w.params) (Str.ofString "_law_beside") 297 := ⟨by kernel_rfl, by kernel_rfl, by kernel_rfl⟩
theorem me_shade (w : World) : methIn (Fl.kH w.params) 196 (Str.ofString "shade") 179 = true := by kernel_rfl
theorem mk_shade (w : World) : keepIn (Fl.kH w.params) (.ref 179) = true := methIn_keep (me_shade w)
theorem me_beside (w : World) : methIn (Fl.kH w.params) 196 (Str.ofString "beside") 193 = true := by kernel_rfl
theorem mk_beside (w : World) : keepIn (Fl.kH w.params) (.ref 193) = true := methIn_keep (me_beside w)
theorem gf_Laying (w : World) : GF (Fl.kH w.params) (Str.ofString "Laying") 257 := ⟨by kernel_rfl, by kernel_rfl, by kernel_rfl⟩
theorem gf_reached (w : World) : GF (Fl.kH w.params) (Str.ofString "reached") 28 := ⟨by kernel_rfl, by kernel_rfl, by kernel_rfl⟩
theorem gf_way_to (w : World) : GF (Fl.kH w.params) (Str.ofString "way_to") 35 := ⟨by kernel_rfl, by kernel_rfl, by kernel_rfl⟩
theorem fi_floor (w : World) : fieldIn (Fl.kH w.params) 257 (Str.ofString "floor") = true := by kernel_rfl
theorem fi_over (w : World) : fieldIn (Fl.kH w.params) 257 (Str.ofString "over") = true := by kernel_rfl
theorem me_need_cell (w : World) : methIn (Fl.kH w.params) 257 (Str.ofString "need_cell") 221 = true := by kernel_rfl
theorem mk_need_cell (w : World) : keepIn (Fl.kH w.params) (.ref 221) = true := methIn_keep (me_need_cell w)
theorem me_put (w : World) : methIn (Fl.kH w.params) 257 (Str.ofString "put") 228 = true := by kernel_rfl
theorem mk_put (w : World) : keepIn (Fl.kH w.params) (.ref 228) = true := methIn_keep (me_put w)
theorem me_lift (w : World) : methIn (Fl.kH w.params) 257 (Str.ofString "lift") 235 = true := by kernel_rfl
theorem mk_lift (w : World) : keepIn (Fl.kH w.params) (.ref 235) = true := methIn_keep (me_lift w)
theorem me_bare (w : World) : methIn (Fl.kH w.params) 257 (Str.ofString "bare") 240 = true := by kernel_rfl
theorem mk_bare (w : World) : keepIn (Fl.kH w.params) (.ref 240) = true := methIn_keep (me_bare w)
theorem gb_sorted (w : World) : GB (Fl.kH w.params) (Str.ofString "sorted") (.builtin "sorted") := ⟨by kernel_rfl, by kernel_rfl, by decide +kernel, by kernel_rfl⟩
theorem gb_reversed (w : World) : GB (Fl.kH w.params) (Str.ofString "reversed") (.type "reversed") := ⟨by kernel_rfl, by kernel_rfl, by decide +kernel, by kernel_rfl⟩

set_option hygiene false in
local macro_rules | `(tactic| walk_at "lk") => `(tactic| with_reducible (repeat (first | exact Look.head | apply Look.tail)))
set_option hygiene false in
local macro_rules | `(tactic| walk_at "pt") => `(tactic| with_reducible (repeat (first | exact Put.head | apply Put.tail)))
set_option hygiene false in
local macro_rules | `(tactic| walk_at "mm") => `(tactic| with_reducible (repeat (first | exact List.mem_cons_self | apply List.mem_cons_of_mem)))
set_option hygiene false in
local macro_rules | `(tactic| walk_at "cf") => `(tactic| with_reducible (repeat (first | exact ChgF.head | apply ChgF.tail)))
set_option hygiene false in
local macro_rules | `(tactic| walk_at "enter") => `(tactic| (
  (case z_ho => k_is); (case z_hcd => k_is); (case z_hbind => rfl); (case z_hd => kernel_rfl); (case z_hb1 => kernel_rfl); (case z_hb2 => kernel_rfl); (case z_hρ => kernel_rfl)))
set_option hygiene false in
local macro_rules | `(tactic| walk_at "room") => `(tactic| (have rd := R.depth; have ru := R.units; (try simp only [depth_deeper, Around.deeper_units]); (first | lia | omega)))
set_option hygiene false in
local macro_rules | `(tactic| walk_at "fi") => `(tactic| with_reducible first | exact fi_rows _ | exact fi_high _ | exact fi_wide _ | exact fi_floor _ | exact fi_over _)
set_option hygiene false in
local macro_rules | `(tactic| walk_at "gb") => `(tactic| with_reducible first | exact gb_len _ | exact gb_range _ | exact gb_isi _ | exact gb_min _ | exact gb_max _ | exact gb_abs _ | exact gb_list _ | exact gb_int _ | exact gb_bool _ | exact gb_sorted _ | exact gb_reversed _)
set_option hygiene false in
local macro_rules | `(tactic| walk_at "gs") => `(tactic| with_reducible first | exact gs_ALONG _ | exact gs_ACROSS _ | exact gs_SIGNS _)
set_option hygiene false in
local macro_rules | `(tactic| walk_at "gi") => `(tactic| with_reducible first | exact gi_MOST _)
set_option hygiene false in
local macro_rules | `(tactic| walk_at "gf") => `(tactic| with_reducible first | exact gf_sizes _ | exact gf_cell_at _ | exact gf_number _ | exact gf_rows _ | exact gf_cells _ | exact gf_Floor _ | exact gf_whole _ | exact gf_lmay _ | exact gf_listed _ | exact gf_truth _ | exact gf_two _ | exact gf_asked _ | exact gf_lbeside _ | exact gf_refused _ | exact gf_faulty _ | exact gf_due _ | exact gf_told _ | exact gf_Laying _ | exact gf_reached _ | exact gf_way_to _ | exact gf_turned _ | exact gf_better _ | exact gf_laid _ | exact gf_fewest _)
set_option hygiene false in
local macro_rules | `(tactic| walk_at "me") => `(tactic| with_reducible first | exact me_has _ | exact me_sign_of _ | exact me_may _ | exact me_cells _ | exact me_shade _ | exact me_beside _ | exact me_need_cell _ | exact me_put _ | exact me_lift _ | exact me_bare _ | exact me_slabs _ | exact me_copied _)
set_option hygiene false in
local macro_rules | `(tactic| walk_at "mk") => `(tactic| with_reducible first | exact mk_has _ | exact mk_sign_of _ | exact mk_may _ | exact mk_cells _ | exact mk_shade _ | exact mk_beside _ | exact mk_need_cell _ | exact mk_put _ | exact mk_lift _ | exact mk_bare _ | exact mk_slabs _ | exact mk_copied _)
set_option hygiene false in
local macro_rules | `(tactic| walk_at "kp") => `(tactic| (intro s' hk; replace S := CS.keeps S hk; clear hk))
set_option hygiene false in
local macro_rules | `(tactic| walk_at "kpt") => `(tactic| (intro t s' hk; replace S := CS.keeps S hk; clear hk))
set_option hygiene false in
local macro_rules | `(tactic| walk_at "turn") => `(tactic| (intro h₁ s k S Q' hNx hRet; replace G := Gr.mono G k))
set_option hygiene false in
local macro_rules | `(tactic| walk_at "gnew") => `(tactic| (obtain ⟨h₁, k, S', hN⟩ := CS.gnew S hk; replace S := S'; clear S'; replace G := Gr.mono G k))
set_option hygiene false in
local macro_rules | `(tactic| walk_at "store") => `(tactic| ((refine' a_store S (S.gr G).X ?z_hx ?z_hc ?z_U ?z_hn ?z_hk ?_); (case z_hx => exact S.atLed (by walk_at "mm")); (case z_hc => first | exact st_rows _ | exact st_high _ | exact st_wide _ | exact st_floor _ | exact st_over _); (case z_U => walk_at "cf"); (case z_hn => assumption); (case z_hk => decide); clear S; intro o' s hn' S))
-- a step: the statements and the expressions
set_option hygiene false in
local macro_rules | `(tactic| walk_at "st") => `(tactic| first
  | (with_reducible refine x_nil ?_)
  | (with_reducible refine x_ret ?_)
  | ((with_reducible refine' x_assign ?_ ?z_hs); (case z_hs => rfl))
  | ((with_reducible refine' x_e ?_ ?z_hi ?z_hs); (case z_hi => rfl); (case z_hs => rfl))
  | ((with_reducible refine' x_attr ?_ ?z_hs); (case z_hs => rfl))
  | ((with_reducible refine' x_setitem ?_ ?z_hs); (case z_hs => rfl))
  | ((with_reducible refine' x_for ?z_hs ?_); (case z_hs => intro _; rfl))
  | (with_reducible refine seq_next ?_)
  | (with_reducible refine i_tt ?_)
  | (with_reducible refine i_ff ?_)
  | (with_reducible refine i_not ?_)
  | (with_reducible refine seq_ret ?_)
  | (with_reducible refine ret_ret ?_)
  | (with_reducible refine ret_next ?_)
  | (with_reducible refine hRet _ _ ?_)
  | (with_reducible refine hRet0 _ _ ?_)
  | (with_reducible refine else_next ?_)
  | (with_reducible refine else_ret ?_)
  | ((with_reducible refine' n_var S ?z_hx ?z_hd ?_); (case z_hx => walk_at "lk"); (case z_hd => kernel_rfl))
  | ((with_reducible refine c_int S ?_); clear S; intro t s S)
  | ((with_reducible refine c_str S ?_); clear S; intro t s S)
  | (with_reducible refine wpAny_Constant_bool ?_)
  | (with_reducible refine wpAny_Constant_none ?_)
  | ((with_reducible refine' wpAny_isTrue_Compare1 ?_ ?z_hm); (case z_hm => with_unfolding_all rfl))
  | ((with_reducible refine' wpAny_Compare1 ?_ ?z_hm); (case z_hm => with_unfolding_all rfl))
  | (with_reducible refine wpAny_BinOp ?_)
  | (with_reducible refine wpAny_UnaryOp ?_)
  | (with_reducible refine PyProof.Rows.not_of ?_)
  | (with_reducible refine isTrue_not ?_)
  | (with_reducible refine isTrue_or_nil ?_)
  | (with_reducible refine isTrue_and_nil ?_)
  | (with_reducible refine isTrue_or ?_)
  | (with_reducible refine isTrue_and ?_)
  | (with_reducible refine wpAny_IfExp ?_)
  | ((with_reducible refine' isTrue_chain ?_ ?z_hm); (case z_hm => with_unfolding_all rfl))
  | (with_reducible refine test_link ?_)
  | (with_reducible refine test_lastE ?_)
  | (with_reducible refine BoolOp_one ?_)
  | (with_reducible refine BoolOp_and ?_)
  | (with_reducible refine BoolOp_or ?_)
  | ((with_reducible refine' wpAny_isTrue_value ?_ ?z_he); (case z_he => rfl))
  | (with_reducible refine wpAny_truthy_bool ?_)
  | ((with_reducible refine' sl_ ?_ ?z_ht); (case z_ht => intro _ _; rfl))
  | (with_reducible refine part_none ?_)
  | (with_reducible refine part_some ?_)
  | ((with_reducible refine' Subscript_ ?_))
  | ((with_reducible refine' Attribute_Name_ ?_ ?z_he); (case z_he => rfl))
  | ((with_reducible refine' Attribute_any_ ?_ ?z_he); (case z_he => rfl))
  | (with_reducible refine List_ ?_)
  | (with_reducible refine Tuple_ ?_)
  | ((with_reducible refine' args_cons ?_ ?z_he); (case z_he => rfl))
  | (with_reducible refine args_nil ?_)
  | ((with_reducible refine' callB S G ?z_g ?z_hx ?z_hg ?z_hb ?_ ?z_he ?z_hp); (case z_g => walk_at "gb"); (case z_hx => kernel_rfl); (case z_hg => rfl); (case z_hb => rfl); (case z_he => rfl); (case z_hp => rfl))
  | ((with_reducible refine' callT S G ?z_g ?z_hx ?z_hg ?z_hb ?_ ?z_he ?z_hp); (case z_g => walk_at "gb"); (case z_hx => kernel_rfl); (case z_hg => rfl); (case z_hb => rfl); (case z_he => rfl); (case z_hp => rfl))
  | ((with_reducible refine' callN S G ?z_g ?z_hx ?z_hg ?_ ?z_he ?z_hp); (case z_g => walk_at "gf"); (case z_hx => kernel_rfl); (case z_hg => rfl); (case z_he => rfl); (case z_hp => rfl))
  | ((with_reducible refine' n_gs S G ?z_g ?z_hx ?z_hg ?_); (case z_g => walk_at "gs"); (case z_hx => kernel_rfl); (case z_hg => rfl); intro t)
  | ((with_reducible refine' n_gi S G ?z_g ?z_hx ?z_hg ?_); (case z_g => walk_at "gi"); (case z_hx => kernel_rfl); (case z_hg => rfl); intro t)
  | ((with_reducible refine' n_gb S G ?z_g ?z_hx ?z_hg ?z_hb ?_); (case z_g => walk_at "gb"); (case z_hx => kernel_rfl); (case z_hg => rfl); (case z_hb => rfl))
  | ((with_reducible refine' n_gf S G ?z_g ?z_hx ?z_hg ?_); (case z_g => walk_at "gf"); (case z_hx => kernel_rfl); (case z_hg => rfl))
  | ((with_reducible refine' MethodCall_ ?_ ?z_he); (case z_he => rfl))
  | ((with_reducible refine' cw_own G ?z_k ?_ ?z_he ?z_hp); (case z_k => walk_at "mk"); (case z_he => rfl); (case z_hp => rfl))
  | ((with_reducible refine' cw_own0 (S.gr G).X ?z_k ?_); (case z_k => walk_at "mk"))
  | ((with_reducible refine' cw_meth ?_ ?z_he ?z_hp); (case z_he => rfl); (case z_hp => rfl))
  | (with_reducible refine cw_meth0 ?_)
  | (with_reducible refine And.intro (CS.gr S G).X ?_)
  | ((with_reducible refine' S.put ?z_p ?_); (case z_p => walk_at "pt"); clear S; intro s S)
  | (with_reducible refine PySem.P.lt_int ?_)
  | (with_reducible refine PySem.P.le_int ?_)
  | (with_reducible refine PySem.P.gt_int ?_)
  | (with_reducible refine PySem.P.ge_int ?_)
  | (with_reducible refine PySem.P.eq_int ?_)
  | (with_reducible refine PySem.P.ne_int ?_)
  | (with_reducible refine t_eq ?_)
  | (with_reducible refine t_ne ?_)
  | (with_reducible refine t_in ?_)
  | (with_reducible refine t_notin ?_)
  | (with_reducible refine w_is ?_)
  | (with_reducible refine y_int_int ?_)
  | ((with_reducible refine y_int_bool S ?_); clear S; intro s S)
  | ((with_reducible refine' b_min S ?z_hh ?_); (case z_hh => exact R.handled); clear S; intro t s S)
  | ((with_reducible refine' b_max S ?z_hh ?_); (case z_hh => exact R.handled); clear S; intro t s S)
  | ((with_reducible refine b_abs S ?_); clear S; intro t s S)
  | (with_reducible refine PySem.GM.join ?_)
  | ((with_reducible refine' m_list (S.atLed ?z_m) ?z_sl ?z_ty ?_); (case z_m => walk_at "mm"); (case z_sl => first | exact PySem.F.slot_list_append | exact PySem.F.slot_list_clear | exact PySem.F.slot_list_count); (case z_ty => first | exact PySem.F.type_list_append | exact type_list_clear | exact type_list_count))
  | ((with_reducible refine o_add S ?_); clear S; intro t s S)
  | ((with_reducible refine o_sub S ?_); clear S; intro t s S)
  | ((with_reducible refine o_neg S ?_); clear S; intro t s S)
  | ((with_reducible refine' o_mul S ?z_m ?_); (case z_m => walk_at "mulok"); clear S; intro t s S)
  | ((with_reducible refine' o_div S ?z_p ?z_q ?_); (case z_p => walk_at "pos"); (case z_q => walk_at "pos"); clear S; intro t s S)
  | ((with_reducible refine' o_mod S ?z_p ?_); (case z_p => walk_at "pos"); clear S; intro t s S))
set_option hygiene false in
local macro_rules | `(tactic| walk_at "mulok") => `(tactic| first | exact IntMulOk.of_left (by decide) | exact IntMulOk.of_left (intBits_le_64 (by (first | lia | omega)) (by (first | lia | omega))) | exact IntMulOk.of_right (by decide) | assumption)
set_option hygiene false in
local macro_rules | `(tactic| walk_at "pos") => `(tactic| first | decide | (first | lia | omega))
-- a field of a floor, a method of a floor
set_option hygiene false in
local macro_rules | `(tactic| walk_at "fl") => `(tactic| first
  | ((with_reducible refine' a_fld S G (F.mono S.base).obj ?z_hc ?z_hl ?z_hh ?_); (case z_hc => walk_at "fi"); (case z_hl => walk_at "mm"); (case z_hh => rfl); clear S; intro s S)
  | ((with_reducible refine' m_get (S.gr G).X (F.mono S.base).obj ?z_hc ?z_hl ?_); (case z_hc => walk_at "me"); (case z_hl => kernel_rfl))
  | ((with_reducible refine' a_fld S G (ObjAt.mono Y S.base) ?z_hc ?z_hl ?z_hh ?_); (case z_hc => walk_at "fi"); (case z_hl => walk_at "mm"); (case z_hh => rfl); clear S; intro s S)
  | ((with_reducible refine' m_get (S.gr G).X (ObjAt.mono Y S.base) ?z_hc ?z_hl ?_); (case z_hc => walk_at "me"); (case z_hl => kernel_rfl)))
set_option hygiene false in
local macro_rules | `(tactic| walk_at "go") => `(tactic| try repeat' (first | walk_at "st" | (with_reducible refine x_if ?_) | walk_at "fl"))
set_option hygiene false in
local macro_rules | `(tactic| walk_at "gu") => `(tactic| try repeat' (first | walk_at "st" | walk_at "fl"))

def cellAt (ns : List Int) (k : Int) : Int := if k < ns.length then ns.getD k.toNat 0 else 0

theorem cell_at_spec {w : World} {A : Around} {s : Shared} {Q E : Value → Shared → Prop} {l : Addr} {ns : List Int} {k : Int} {t : Tok} (G : Gr (Fl.kH w.params) s.heap) (R : Room A 1) (hl : IntL s.heap l ns)
    (hn : ns.length ≤ 63) (hk : 0 ≤ k) (h : ∀ t s', Keeps s s' → Q (.int (cellAt ns k) t) s') : wpAny (model PP w) A (call (.ref 268) [.ref l, .int k t]) Q E s := by
  refine' callP [(Str.ofString "_law_script", some (.ref l)), (Str.ofString "_law_k", some (.int k t))] G (by walk_at "room") ?z_ho ?z_hcd ?z_hbind ?z_hd ?z_hb1 ?z_hb2 ?z_hρ ?_
  walk_at "enter"
  intro L s S
  walk_at "go"
  refine l_len S (hl.mono S.base) (by (first | lia | omega)) ?_; clear S; intro t s S
  walk_at "go"
  refine i_dec (fun hc => ?_) (fun hc => ?_)
  · walk_at "go"
    refine l_at (hl.mono S.base) hk hc (by (first | lia | omega)) rfl ?_
    intro t
    walk_at "go"
    have := h t s S.out
    rw [cellAt, if_pos hc] at this
    exact this
  · walk_at "go"
    have := h t s S.out
    rw [cellAt, if_neg hc] at this
    exact this

theorem number_spec {w : World} {A : Around} {s : Shared} {Q E : Value → Shared → Prop} {l : Addr} {ns : List Int} {k : Int} {t : Tok} (G : Gr (Fl.kH w.params) s.heap) (R : Room A 1) (hl : IntL s.heap l ns)
    (hn : ns.length ≤ 63) (hk : 0 ≤ k) (h : ∀ n t s', 0 ≤ n → Keeps s s' → Q (.int n t) s') : wpAny (model PP w) A (call (.ref 275) [.ref l, .int k t]) Q E s := by
  refine' callP [(Str.ofString "_law_script", some (.ref l)), (Str.ofString "_law_k", some (.int k t)), (Str.ofString "_law_base", none)] G (by walk_at "room") ?z_ho ?z_hcd ?z_hbind ?z_hd ?z_hb1 ?z_hb2 ?z_hρ ?_
  walk_at "enter"
  intro L s S
  walk_at "go"
  refine l_len S (hl.mono S.base) (by (first | lia | omega)) ?_; clear S; intro t s S
  walk_at "go"
  refine i_eq (fun hc => ?_) (fun hc => ?_)
  · walk_at "go"
    exact h _ _ s hk S.out
  · walk_at "go"
    refine l_len S (hl.mono S.base) (by (first | lia | omega)) ?_; clear S; intro t s S
    have hpos : 0 < (ns.length : Int) := by (first | lia | omega)
    walk_at "go"
    refine l_at (hl.mono S.base) (Int.emod_nonneg _ hc) (Int.emod_lt_of_pos _ hpos) (by (first | lia | omega)) (by rfl) ?_
    intro t
    walk_at "go"
    refine l_len S (hl.mono S.base) (by (first | lia | omega)) ?_; clear S; intro t s S
    walk_at "go"
    exact h _ _ s (Int.emod_nonneg _ (by decide)) S.out

theorem sign_of_spec {w : World} {A : Around} {s : Shared} {Q E : Value → Shared → Prop} {fl l : Addr} {rows : List Str} {wd : Nat} {t1 t2 t : Tok} {p : Int} (G : Gr (Fl.kH w.params) s.heap) (R : Room A 1) (F : FloorAt 196 s.heap fl l rows wd t1 t2)
    (h0 : 0 ≤ p) (h1 : p < rows.length * wd) (h : ∀ t s', Keeps s s' → Q (.str ⟨#[sg rows wd p]⟩ t) s') : wpAny (model PP w) A (call (.ref 160) [.ref fl, .int p t]) Q E s := by
  refine' callP [(Str.ofString "self", some (.ref fl)), (Str.ofString "place", some (.int p t))] G (by walk_at "room") ?z_ho ?z_hcd ?z_hbind ?z_hd ?z_hb1 ?z_hb2 ?z_hρ ?_
  walk_at "enter"
  intro L s S
  obtain ⟨hw, e1, e2, e3, e4⟩ := F.grid.at_ h0 h1
  have hw' : (wd : Int) < 1073741824 := by have := F.grid.wide; (first | lia | omega)
  have hh := F.grid.high
  have hww := F.grid.wide
  walk_at "go"
  refine l_atS (F.mono S.base).texts e1 e2 (by (first | lia | omega)) (by rfl) ?_
  intro t
  walk_at "go"
  have hlen : (rows.getD (p / wd).toNat Str.empty).length = wd := row_len F.grid (by (first | lia | omega))
  refine t_at S e3 (by rw [hlen]; exact e4) (by (first | lia | omega)) (by rfl) ?_; clear S; intro t s S
  walk_at "go"
  exact h t s S.out

theorem has_spec {w : World} {A : Around} {s : Shared} {Q E : Value → Shared → Prop} {fl l : Addr} {rows : List Str} {wd : Nat} {t1 t2 t : Tok} {p : Int} (G : Gr (Fl.kH w.params) s.heap) (R : Room A 2) (F : FloorAt 196 s.heap fl l rows wd t1 t2)
    (h : ∀ s', Keeps s s' → Q (.bool (hasB rows wd p)) s') : wpAny (model PP w) A (call (.ref 167) [.ref fl, .int p t]) Q E s := by
  refine' callP [(Str.ofString "self", some (.ref fl)), (Str.ofString "place", some (.int p t))] G (by walk_at "room") ?z_ho ?z_hcd ?z_hbind ?z_hd ?z_hb1 ?z_hb2 ?z_hρ ?_
  walk_at "enter"
  intro L s S
  have hh := F.grid.high
  have hww := F.grid.wide
  walk_at "go"
  refine i_dec (fun hc => ?_) (fun hc => ?_)
  · walk_at "go"
    have := h s S.out
    rw [show hasB rows wd p = false by simp [hasB, inB]; (first | lia | omega)] at this
    exact this
  · walk_at "go"
    refine i_dec (fun hc2 => ?_) (fun hc2 => ?_)
    · walk_at "go"
      have := h s S.out
      rw [show hasB rows wd p = false by simp [hasB, inB]; (first | lia | omega)] at this
      exact this
    · walk_at "go"
      refine sign_of_spec (S.gr G) (R.in_ (by (first | lia | omega))) (F.mono S.base) (by (first | lia | omega)) (by (first | lia | omega)) ?_
      walk_at "kpt"
      walk_at "go"
      have := h _ S.out
      rw [show hasB rows wd p = ((⟨#[sg rows wd p]⟩ : Str) != Str.ofString "#") from ?_] at this
      · exact this
      · rw [show Str.ofString "#" = ⟨#[35]⟩ by decide +kernel]
        have e : inB rows wd p = true := by simp [inB]; (first | lia | omega)
        rw [hasB, e, Bool.true_and, one_ne]

theorem along_in (c : Nat) : decide (c ∈ (⟨#[46, 45]⟩ : Str).cps.toList) = alongB c := by rw [Bool.eq_iff_iff]; simp [alongB]
theorem across_in (c : Nat) : decide (c ∈ (⟨#[46, 124]⟩ : Str).cps.toList) = acrossB c := by rw [Bool.eq_iff_iff]; simp [acrossB]

theorem may_spec {w : World} {A : Around} {s : Shared} {Q E : Value → Shared → Prop} {fl l : Addr} {rows : List Str} {wd : Nat} {t1 t2 t u : Tok} {a c : Int} (G : Gr (Fl.kH w.params) s.heap) (R : Room A 3) (F : FloorAt 196 s.heap fl l rows wd t1 t2)
    (h : ∀ s', Keeps s s' → Q (.bool (mayB rows wd a c)) s') : wpAny (model PP w) A (call (.ref 186) [.ref fl, .int a t, .int c u]) Q E s := by
  refine' callP [(Str.ofString "self", some (.ref fl)), (Str.ofString "one", some (.int a t)), (Str.ofString "other", some (.int c u)), (Str.ofString "low", none), (Str.ofString "high", none), (Str.ofString "first", none), (Str.ofString "second", none)] G (by walk_at "room") ?z_ho ?z_hcd ?z_hbind ?z_hd ?z_hb1 ?z_hb2 ?z_hρ ?_
  walk_at "enter"
  intro L s S
  have hh := F.grid.high
  have hww := F.grid.wide
  walk_at "go"
  refine has_spec (S.gr G) (R.in_ (by (first | lia | omega))) (F.mono S.base) ?_
  walk_at "kp"
  walk_at "go"
  refine i_bool (fun ha => ?_) (fun ha => ?_)
  · walk_at "go"
    refine has_spec (S.gr G) (R.in_ (by (first | lia | omega))) (F.mono S.base) ?_
    walk_at "kp"
    walk_at "go"
    refine i_bool (fun hc => ?_) (fun hc => ?_)
    · walk_at "go"
      obtain ⟨ha0, ha1⟩ := hasB_in ha
      obtain ⟨hc0, hc1⟩ := hasB_in hc
      refine sign_of_spec (S.gr G) (R.in_ (by (first | lia | omega))) (F.mono S.base) (by (first | lia | omega)) (by (first | lia | omega)) ?_
      walk_at "kpt"
      walk_at "go"
      refine sign_of_spec (S.gr G) (R.in_ (by (first | lia | omega))) (F.mono S.base) (by (first | lia | omega)) (by (first | lia | omega)) ?_
      walk_at "kpt"
      have hw' : 0 < (wd : Int) := by have := F.grid.at_ ha0 ha1; (first | lia | omega)
      walk_at "go"
      have hm : mayB rows wd a c = (if max a c - min a c = 1 ∧ min a c / wd = max a c / wd then alongB (sg rows wd (min a c)) && alongB (sg rows wd (max a c))
     else if max a c - min a c = wd then acrossB (sg rows wd (min a c)) && acrossB (sg rows wd (max a c)) else false) := by rw [mayB, ha, hc, Bool.and_true, Bool.true_and]
      rw [hm] at h
      refine i_eq (fun hd => ?_) (fun hd => ?_)
      · walk_at "go"
        refine i_eq (fun he => ?_) (fun he => ?_)
        · walk_at "go"
          rw [if_pos ⟨hd, he⟩] at h
          rw [along_in]
          refine i_bool (fun hf => ?_) (fun hf => ?_)
          · walk_at "go"
            rw [along_in]
            have := h _ S.out
            rw [hf, Bool.true_and] at this
            exact this
          · rw [hf]
            walk_at "go"
            have := h _ S.out
            rw [hf, Bool.false_and] at this
            exact this
        · walk_at "go"
          rw [if_neg (fun q => he q.2)] at h
          refine i_eq (fun hd2 => ?_) (fun hd2 => ?_)
          · walk_at "go"
            rw [if_pos hd2] at h
            rw [across_in]
            refine i_bool (fun hf => ?_) (fun hf => ?_)
            · walk_at "go"
              rw [across_in]
              have := h _ S.out
              rw [hf, Bool.true_and] at this
              exact this
            · rw [hf]
              walk_at "go"
              have := h _ S.out
              rw [hf, Bool.false_and] at this
              exact this
          · walk_at "go"
            rw [if_neg hd2] at h
            exact h _ S.out
      · walk_at "go"
        rw [if_neg (fun q => hd q.1)] at h
        refine i_eq (fun hd2 => ?_) (fun hd2 => ?_)
        · walk_at "go"
          rw [if_pos hd2] at h
          rw [across_in]
          refine i_bool (fun hf => ?_) (fun hf => ?_)
          · walk_at "go"
            rw [across_in]
            have := h _ S.out
            rw [hf, Bool.true_and] at this
            exact this
          · rw [hf]
            walk_at "go"
            have := h _ S.out
            rw [hf, Bool.false_and] at this
            exact this
        · walk_at "go"
          rw [if_neg hd2] at h
          exact h _ S.out
    · walk_at "go"
      have := h _ S.out
      rw [show mayB rows wd a c = false by rw [mayB, hc]; simp] at this
      exact this
  · walk_at "go"
    have := h _ S.out
    rw [show mayB rows wd a c = false by rw [mayB, ha]; rfl] at this
    exact this


theorem len_wd {rows : List Str} {wd : Nat} (g : Grid rows wd) : rows.length * wd ≤ 144 ∧ ((rows.length : Int) * wd) = ((rows.length * wd : Nat) : Int) := ⟨Nat.mul_le_mul g.high g.wide, by rw [Int.natCast_mul]⟩
theorem cells_spec {w : World} {A : Around} {s : Shared} {Q E : Value → Shared → Prop} {fl l : Addr} {rows : List Str} {wd : Nat} {t1 t2 : Tok} (G : Gr (Fl.kH w.params) s.heap) (R : Room A 3) (F : FloorAt 196 s.heap fl l rows wd t1 t2)
    (h : ∀ D ys k s', s.heap.get? D = none → s'.heap.get? D = some (lst ys k) → IntsAre ys.toList (cellsL rows wd) → Keeps s s' → Q (.ref D) s') : wpAny (model PP w) A (call (.ref 172) [.ref fl]) Q E s := by
  refine' callP [(Str.ofString "self", some (.ref fl))] G (by walk_at "room") ?z_ho ?z_hcd ?z_hbind ?z_hd ?z_hb1 ?z_hb2 ?z_hρ ?_
  walk_at "enter"
  intro L s S
  have hh := F.grid.high
  have hww := F.grid.wide
  obtain ⟨hl1, hl2⟩ := len_wd F.grid
  walk_at "go"
  refine' lc [(Str.ofString "self", some (.ref fl))] (onI (hasB rows wd)) (FII id) S ?z_ok ?z_sel ?_ ?z_hs
  case z_ok => kernel_rfl
  case z_sel => exact Sel.cons (by walk_at "lk") Sel.nil
  case z_hs => intro _; rfl
  walk_at "go"
  refine r_range S ?_; clear S; intro r t1 t2 t3 s hr S
  refine it_range S R.handled hr (by (first | lia | omega)) (by (first | lia | omega)) ?_
  intro it s I
  refine comp_it I (by (first | lia | omega)) ?_ ?_ ?_
  · intro C i v s E' hlt hv S
    obtain ⟨t, rfl⟩ := hv
    refine tests1 ?_
    walk_at "go"
    refine has_spec (S.gr G) (R.in_ (by (first | lia | omega))) (F.mono S.base) ?_
    walk_at "kp"
    walk_at "go"
    exact ⟨rfl, S.quiet⟩
  · intro C i v s E' hlt hv hp S
    obtain ⟨t, rfl⟩ := hv
    walk_at "go"
    exact ⟨⟨_, _, _, rfl, rfl⟩, S.quiet⟩
  · intro D k ys vs h1 h2 h3 hD s' S
    walk_at "go"
    refine h D ys k s' (I.cs.base.none hD) (S.atLed (List.mem_cons_self ..)) ?_ S.out
    have := pairII (filtI (vs_range h1 h2)) h3
    rw [hl2, Int.toNat_natCast, List.map_id] at this
    exact this


theorem sizes_spec {w : World} {A : Around} {s : Shared} {Q E : Value → Shared → Prop} {l : Addr} {rows : List Str} {wd : Nat} (G : Gr (Fl.kH w.params) s.heap) (R : Room A 1) (hl : StrL s.heap l rows) (g : Grid rows wd)
    (h : ∀ s', Keeps s s' → Q .none s') : wpAny (model PP w) A (call (.ref 139) [.ref l]) Q E s := by
  refine' callP [(Str.ofString "rows", some (.ref l)), (Str.ofString "row", none)] G (by walk_at "room") ?z_ho ?z_hcd ?z_hbind ?z_hd ?z_hb1 ?z_hb2 ?z_hρ ?_
  walk_at "enter"
  intro L s S
  have hh := g.high
  have hww := g.wide
  have hlen := g.len
  have hl' := hl
  obtain ⟨vs, ⟨o, ho, hc, n, hd⟩, hi⟩ := hl'
  have hsz : vs.toArray.size = rows.length := by rw [List.size_toArray]; exact hi.length
  walk_at "go"
  refine l_lenS S (hl.mono S.base) (by (first | lia | omega)) ?_; clear S; intro t s S
  walk_at "go"
  refine i_dec (fun hc1 => by (first | lia | omega)) (fun hc1 => ?_)
  walk_at "go"
  refine it_list S R.handled ho hc ⟨n, hd⟩ ?_
  intro it s I
  refine loop_it (fun i ρ Λ => (∃ a, ρ = [(Str.ofString "rows", some (.ref l)), (Str.ofString "row", a)]) ∧ Λ = []) I ⟨⟨_, rfl⟩, rfl⟩ ?_ ?_ ?_
  · rintro i ρ' Λ' ⟨_, rfl⟩; rfl
  · rintro i v ρ₁ Λ₁ hi1 hv ⟨⟨a, rfl⟩, rfl⟩
    obtain ⟨y, t, rfl, hy⟩ := hi.item i v (by simpa using hv)
    have hyl := hlen y (List.mem_of_getElem? hy)
    refine ⟨_, .tail .head, ?_⟩
    walk_at "turn"
    walk_at "go"
    refine t_len S (by (first | lia | omega)) ?_; clear S; intro t s S
    walk_at "go"
    refine i_dec (fun hc1 => by (first | lia | omega)) (fun hc1 => ?_)
    walk_at "go"
    exact hNx _ _ _ _ (Sub.refl _) S ⟨⟨_, rfl⟩, rfl⟩
  rintro ρ' Λ' s ⟨⟨a, rfl⟩, rfl⟩ S
  walk_at "go"
  refine it_list S R.handled ho hc ⟨n, hd⟩ ?_
  intro it s I
  refine loop_it (fun i ρ Λ => (∃ a, ρ = [(Str.ofString "rows", some (.ref l)), (Str.ofString "row", a)]) ∧ Λ = []) I ⟨⟨_, rfl⟩, rfl⟩ ?_ ?_ ?_
  · rintro i ρ' Λ' ⟨_, rfl⟩; rfl
  · rintro i v ρ₁ Λ₁ hi1 hv ⟨⟨a, rfl⟩, rfl⟩
    obtain ⟨y, t, rfl, hy⟩ := hi.item i v (by simpa using hv)
    have hyl := hlen y (List.mem_of_getElem? hy)
    have h0 : 0 < rows.length := by (first | lia | omega)
    have hr0 := row_len g h0
    refine ⟨_, .tail .head, ?_⟩
    walk_at "turn"
    walk_at "go"
    refine t_len S (by (first | lia | omega)) ?_; clear S; intro t s S
    walk_at "go"
    refine l_atS (hl.mono (k.trans S.base)) (by (first | lia | omega)) (by (first | lia | omega)) (by (first | lia | omega)) (by rfl) ?_
    intro t
    walk_at "go"
    refine t_len S (by rw [Int.toNat_zero]; (first | lia | omega)) ?_; clear S; intro t s S
    walk_at "go"
    refine i_ne (fun hc1 => absurd (by rw [Int.toNat_zero, hr0, hyl]) hc1) (fun hc1 => ?_)
    walk_at "go"
    exact hNx _ _ _ _ (Sub.refl _) S ⟨⟨_, rfl⟩, rfl⟩
  rintro ρ' Λ' s ⟨⟨a, rfl⟩, rfl⟩ S
  walk_at "go"
  exact h _ S.out


theorem fieldsF {r hi wi : Value} {n : Str} : (if n = Str.ofString "wide" then some wi else if n = Str.ofString "high" then some hi else if n = Str.ofString "rows" then some r else none) =
    List.lookup n [(Str.ofString "rows", r), (Str.ofString "high", hi), (Str.ofString "wide", wi)] := by
  have d1 : Str.ofString "rows" ≠ Str.ofString "high" := by decide +kernel
  have d2 : Str.ofString "rows" ≠ Str.ofString "wide" := by decide +kernel
  have d3 : Str.ofString "high" ≠ Str.ofString "wide" := by decide +kernel
  simp only [List.lookup_cons, List.lookup_nil]
  have e1 := beq_eq_false_iff_ne.mpr d1.symm
  have e2 := beq_eq_false_iff_ne.mpr d2.symm
  have e3 := beq_eq_false_iff_ne.mpr d3.symm
  by_cases h1 : n = Str.ofString "rows"
  · subst h1; simp [d1, d2]
  · by_cases h2 : n = Str.ofString "high"
    · subst h2; simp [d3, e1]
    · by_cases h3 : n = Str.ofString "wide"
      · subst h3; simp [e2, e3]
      · have b1 : (n == Str.ofString "rows") = false := beq_eq_false_iff_ne.mpr h1
        have b2 : (n == Str.ofString "high") = false := beq_eq_false_iff_ne.mpr h2
        have b3 : (n == Str.ofString "wide") = false := beq_eq_false_iff_ne.mpr h3
        simp [h1, h2, h3, b1, b2, b3]

theorem floor_end {C x dx l' : Addr} {od : Obj} {ys : Array Value} {c k : Nat} {rows : List Str} {wd : Nat} {t1 t2 : Tok} {s₀ s : Shared} {env : Env} {ρ : Rho} {Λ : List (Addr × Obj)} {h₁ : Heap} {m : Str → Option Value} (S : CS true s₀ s₀.heap env ρ Λ s) (m1 : (x, instObj C dx) ∈ Λ) (m2 : (dx, od) ∈ Λ) (m3 : (l', lst ys c) ∈ Λ)
    (hn : NsO od m k) (hm : ∀ n, m n = List.lookup n [(Str.ofString "rows", .ref l'), (Str.ofString "high", .int rows.length t1), (Str.ofString "wide", .int wd t2)]) (hi : StrsAre ys.toList rows) (g : Grid rows wd) (hN : Newer s₀ s h₁) : FloorAt C h₁ x l' rows wd t1 t2 := by
  refine ⟨⟨(show [Str.ofString "rows", Str.ofString "high", Str.ofString "wide"].Nodup by decide +kernel), instObj C dx, od, ⟨S.newAt (Sub.refl _) m1 hN, rfl, rfl, S.newAt (Sub.refl _) m2 hN⟩, fun n => ?_⟩, StrL.of (S.newAt (Sub.refl _) m3 hN) hi, g⟩
  rw [hn.look, hm]

theorem floor_spec {w : World} {A : Around} {s : Shared} {Q E : Value → Shared → Prop} {l : Addr} {rows : List Str} {wd : Nat} (G : Gr (Fl.kH w.params) s.heap) (R : Room A 4) (hl : StrL s.heap l rows) (g : Grid rows wd)
    (h : ∀ fl l' t1 t2 s', (∀ h₁, Newer s s' h₁ → FloorAt 196 h₁ fl l' rows wd t1 t2) → s.heap.get? l' = none → Keeps s s' → Q (.ref fl) s') : wpAny (model PP w) A (call (.ref 196) [.ref l]) Q E s := by
  refine' makeK (f := 153) (fun v => [(Str.ofString "self", v), (Str.ofString "rows", .ref l)]) (fun v => [(Str.ofString "self", some v), (Str.ofString "rows", some (.ref l)), (Str.ofString "row", none), (Str.ofString "sign", none)]) G (by walk_at "room") ?z_m ?z_i ?z_f ?z_ho ?z_hcd ?z_hbind ?z_hd ?z_hb1 ?z_hb2 ?z_hρ ?_
  case z_m => kernel_rfl
  case z_i => kernel_rfl
  case z_f => kernel_rfl
  case z_ho => k_is
  case z_hcd => k_is
  case z_hbind => intro _; rfl
  case z_hd => kernel_rfl
  case z_hb1 => intro _; kernel_rfl
  case z_hb2 => intro _; kernel_rfl
  case z_hρ => intro _; kernel_rfl
  intro x dx L s hx hdx S
  have R' : Room (A.under (.builtin "type.__call__" ⟨[.ref 196, .ref l], []⟩)) 2 := R.under (by (first | lia | omega))
  generalize A.under (.builtin "type.__call__" ⟨[.ref 196, .ref l], []⟩) = A' at R' ⊢
  replace R := R'
  have hh := g.high
  have hww := g.wide
  have hlen := g.len
  have hsg := g.sign
  have hl' := hl
  obtain ⟨vs, ⟨o, ho, hc, n, hd⟩, hi⟩ := hl'
  have hsz : vs.toArray.size = rows.length := by rw [List.size_toArray]; exact hi.length
  walk_at "go"
  refine sizes_spec (S.gr G) (R.in_ (by (first | lia | omega))) (hl.mono S.base) g ?_
  walk_at "kp"
  walk_at "go"
  refine it_list S R.handled ho hc ⟨n, hd⟩ ?_
  intro it s I
  refine loop_it (fun i ρ Λ => (∃ a b, ρ = [(Str.ofString "self", some (.ref x)), (Str.ofString "rows", some (.ref l)), (Str.ofString "row", a), (Str.ofString "sign", b)]) ∧ Λ = [(x, instObj 196 dx), (dx, dictOf [] 0)]) I ⟨⟨_, _, rfl⟩, rfl⟩ ?_ ?_ ?_
  · rintro i ρ' Λ' ⟨_, rfl⟩; rfl
  · rintro i v ρ₁ Λ₁ hi1 hv ⟨⟨a, b, rfl⟩, rfl⟩
    obtain ⟨y, t, rfl, hy⟩ := hi.item i v (by simpa using hv)
    have hys := hsg y (List.mem_of_getElem? hy)
    refine ⟨_, .tail (.tail .head), ?_⟩
    walk_at "turn"
    walk_at "go"
    refine it_str S R.handled ?_
    intro it s I
    refine loop_it (fun i ρ Λ => (∃ b, ρ = [(Str.ofString "self", some (.ref x)), (Str.ofString "rows", some (.ref l)), (Str.ofString "row", some (.str y t)), (Str.ofString "sign", b)]) ∧ Λ = [(x, instObj 196 dx), (dx, dictOf [] 0)]) I ⟨⟨_, rfl⟩, rfl⟩ ?_ ?_ ?_
    · rintro i ρ' Λ' ⟨_, rfl⟩; rfl
    · rintro j v ρ₁ Λ₁ hj1 ⟨c, u, hcu, rfl⟩ ⟨⟨b, rfl⟩, rfl⟩
      have hcs := hys c (by have := Array.mem_of_getElem? hcu; simpa using this)
      refine ⟨_, .tail (.tail (.tail .head)), ?_⟩
      walk_at "turn"
      walk_at "go"
      refine i_dec (fun hc1 => ?_) (fun hc1 => absurd ?_ hc1)
      · walk_at "go"
        exact hNx _ _ _ _ (Sub.refl _) S ⟨⟨_, rfl⟩, rfl⟩
      · rcases hcs with rfl | rfl | rfl | rfl <;> simp
    · rintro ρ' Λ' s ⟨⟨b, rfl⟩, rfl⟩ S
      walk_at "go"
      exact hNx _ _ _ _ (Sub.refl _) S ⟨⟨_, _, rfl⟩, rfl⟩
  rintro ρ' Λ' s ⟨⟨a, b, rfl⟩, rfl⟩ S
  walk_at "go"
  refine l_copy S (S.atBase ho) hc hd (by (first | lia | omega)) ?_; clear S; intro l' c s S hl'
  have hn0 := NsO.nil
  walk_at "go"
  walk_at "store"
  walk_at "go"
  refine l_lenS S (hl.mono S.base) (by (first | lia | omega)) ?_; clear S; intro t1 s S
  walk_at "go"
  walk_at "store"
  walk_at "go"
  walk_at "store"
  walk_at "go"
  refine l_lenS S (hl.mono S.base) (by (first | lia | omega)) ?_; clear S; intro t3 s S
  walk_at "go"
  refine i_dec (fun hp => ?_) (fun hp => ?_)
  · walk_at "go"
    refine l_atS (hl.mono S.base) (by (first | lia | omega)) (by (first | lia | omega)) (by (first | lia | omega)) (by rfl) ?_
    intro t
    have hr0 := row_len g (show (0 : Int).toNat < rows.length by rw [Int.toNat_zero]; (first | lia | omega))
    walk_at "go"
    refine t_len S (by (first | lia | omega)) ?_; clear S; intro t s S
    walk_at "go"
    walk_at "store"
    walk_at "go"
    refine ⟨rfl, h _ l' t1 t _ (fun h₁ hN => floor_end S (by walk_at "mm") (by walk_at "mm") (by walk_at "mm") (by assumption) (fun n => ?_) (by simpa using hi) g hN) ?_ S.out⟩
    · rw [← fieldsF, hr0]
      split <;> simp_all
    · exact (S.led (l', _) (by walk_at "mm")).2.2.2 rfl
  · walk_at "go"
    have hwd : wd = 0 := g.none (List.length_eq_zero_iff.mp (by (first | lia | omega)))
    subst hwd
    refine ⟨rfl, h _ l' _ _ _ (fun h₁ hN => floor_end S (by walk_at "mm") (by walk_at "mm") (by walk_at "mm") (by assumption) (fun n => fieldsF) (by simpa using hi) g hN) ?_ S.out⟩
    exact (S.led (l', _) (by walk_at "mm")).2.2.2 rfl


theorem keeps_refl (s : Shared) : Keeps s s := ⟨s.heap, s.toks, rfl, fun _ _ e => e⟩
def menus : List Str := [⟨#[46]⟩, ⟨#[46, 46, 46, 46, 45, 124, 35, 46]⟩, ⟨#[46, 45, 124, 35]⟩, ⟨#[46, 46, 35]⟩, ⟨#[46, 46, 46, 45, 124, 124]⟩, ⟨#[46, 35, 45, 46, 45, 46]⟩]
theorem menus_ok : ∀ m ∈ menus, 0 < m.length ∧ m.length ≤ 8 ∧ ∀ c ∈ m.cps.toList, c = 46 ∨ c = 45 ∨ c = 124 ∨ c = 35 := by decide +kernel
theorem getD_mem {α : Type} {l : List α} {k : Nat} {d : α} (h : k < l.length) : l.getD k d ∈ l := by
  have : l.getD k d = l[k] := by simp [List.getD, h]
  rw [this]; exact List.getElem_mem h
theorem agetD_mem {l : Array Nat} {k : Nat} {d : Nat} (h : k < l.size) : l.getD k d ∈ l.toList := by
  have : l.getD k d = l[k] := by simp [Array.getD, h]
  rw [this]; simp

theorem rows_spec {w : World} {A : Around} {s : Shared} {Q E : Value → Shared → Prop} {l : Addr} {ns : List Int} (G : Gr (Fl.kH w.params) s.heap) (R : Room A 2) (hl : IntL s.heap l ns) (hn : ns.length ≤ 63)
    (h : ∀ D ys k rows wd s', s.heap.get? D = none → s'.heap.get? D = some (lst ys k) → StrsAre ys.toList rows → Grid rows wd → Keeps s s' → Q (.ref D) s') : wpAny (model PP w) A (call (.ref 280) [.ref l]) Q E s := by
  refine' callP [(Str.ofString "_law_script", some (.ref l)), (Str.ofString "_law_first", none), (Str.ofString "_law_high", none), (Str.ofString "_law_wide", none), (Str.ofString "_law_menu", none), (Str.ofString "_law_rows_here", none), (Str.ofString "_law_row", none), (Str.ofString "_law_signs", none)] G (by walk_at "room") ?z_ho ?z_hcd ?z_hbind ?z_hd ?z_hb1 ?z_hb2 ?z_hρ ?_
  walk_at "enter"
  intro L s S
  walk_at "go"
  refine cell_at_spec (S.gr G) (R.in_ (by (first | lia | omega))) (hl.mono S.base) hn (by (first | lia | omega)) ?_
  walk_at "kpt"
  generalize cellAt ns 0 = first at S ⊢
  walk_at "gu"
  refine x_cutS S (fun ρ Λ => (∃ hi wi t u v, 0 ≤ hi ∧ hi ≤ 12 ∧ 0 ≤ wi ∧ wi ≤ 12 ∧ ρ = [(Str.ofString "_law_script", some (.ref l)), (Str.ofString "_law_first", some (.int first v)), (Str.ofString "_law_high", some (.int hi t)), (Str.ofString "_law_wide", some (.int wi u)), (Str.ofString "_law_menu", none), (Str.ofString "_law_rows_here", none), (Str.ofString "_law_row", none), (Str.ofString "_law_signs", none)]) ∧ Λ = []) ?_ ?_
  · intro Q' hQ
    walk_at "go"
    refine i_eq (fun hd => ?_) (fun hd => ?_)
    · walk_at "go"
      exact hQ _ _ _ ⟨⟨_, _, _, _, _, by (first | lia | omega), by (first | lia | omega), by (first | lia | omega), by (first | lia | omega), rfl⟩, rfl⟩ S
    · walk_at "go"
      exact hQ _ _ _ ⟨⟨_, _, _, _, _, by (first | lia | omega), by (first | lia | omega), by (first | lia | omega), by (first | lia | omega), rfl⟩, rfl⟩ S
  clear S
  rintro ρ' Λ' s ⟨⟨hi, wi, t, u, v, h0, h1, h2, h3, rfl⟩, rfl⟩ S
  refine x_cutS S (fun ρ Λ => (∃ hi wi t u v, 0 ≤ hi ∧ hi ≤ 12 ∧ 0 ≤ wi ∧ wi ≤ 12 ∧ ρ = [(Str.ofString "_law_script", some (.ref l)), (Str.ofString "_law_first", some (.int first v)), (Str.ofString "_law_high", some (.int hi t)), (Str.ofString "_law_wide", some (.int wi u)), (Str.ofString "_law_menu", none), (Str.ofString "_law_rows_here", none), (Str.ofString "_law_row", none), (Str.ofString "_law_signs", none)]) ∧ Λ = []) ?_ ?_
  · intro Q' hQ
    walk_at "go"
    refine i_eq (fun hd => ?_) (fun hd => ?_)
    · walk_at "go"
      exact hQ _ _ _ ⟨⟨_, _, _, _, _, by (first | lia | omega), by (first | lia | omega), by (first | lia | omega), by (first | lia | omega), rfl⟩, rfl⟩ S
    · walk_at "go"
      exact hQ _ _ _ ⟨⟨_, _, _, _, _, by (first | lia | omega), by (first | lia | omega), by (first | lia | omega), by (first | lia | omega), rfl⟩, rfl⟩ S
  clear S h0 h1 h2 h3
  rintro ρ' Λ' s ⟨⟨hi, wi, t, u, v, h0, h1, h2, h3, rfl⟩, rfl⟩ S
  refine x_cutS S (fun ρ Λ => (∃ hi wi t u v, 0 ≤ hi ∧ hi ≤ 12 ∧ 0 ≤ wi ∧ wi ≤ 12 ∧ ρ = [(Str.ofString "_law_script", some (.ref l)), (Str.ofString "_law_first", some (.int first v)), (Str.ofString "_law_high", some (.int hi t)), (Str.ofString "_law_wide", some (.int wi u)), (Str.ofString "_law_menu", none), (Str.ofString "_law_rows_here", none), (Str.ofString "_law_row", none), (Str.ofString "_law_signs", none)]) ∧ Λ = []) ?_ ?_
  · intro Q' hQ
    walk_at "go"
    refine i_eq (fun hd => ?_) (fun hd => ?_)
    · walk_at "go"
      refine i_eq (fun hd => ?_) (fun hd => ?_)
      · walk_at "go"
        exact hQ _ _ _ ⟨⟨_, _, _, _, _, by (first | lia | omega), by (first | lia | omega), by (first | lia | omega), by (first | lia | omega), rfl⟩, rfl⟩ S
      · walk_at "go"
        exact hQ _ _ _ ⟨⟨_, _, _, _, _, by (first | lia | omega), by (first | lia | omega), by (first | lia | omega), by (first | lia | omega), rfl⟩, rfl⟩ S
    · walk_at "go"
      exact hQ _ _ _ ⟨⟨_, _, _, _, _, by (first | lia | omega), by (first | lia | omega), by (first | lia | omega), by (first | lia | omega), rfl⟩, rfl⟩ S
  clear S h0 h1 h2 h3
  rintro ρ' Λ' s ⟨⟨hi, wi, th, tw, tf, h0, h1, h2, h3, rfl⟩, rfl⟩ S
  walk_at "go"
  refine l_new S (by simp) ?_; clear S; intro lm s S _
  walk_at "go"
  refine cell_at_spec (S.gr G) (R.in_ (by (first | lia | omega))) (hl.mono S.base) hn (by (first | lia | omega)) ?_
  walk_at "kpt"
  walk_at "go"
  have hmk : (cellAt ns 1 % 6).toNat < menus.length := by show _ < 6; (first | lia | omega)
  refine l_atS (ns := menus) (StrL.of (S.atLed (List.mem_cons_self ..)) (.cons _ _ (.cons _ _ (.cons _ _ (.cons _ _ (.cons _ _ (.cons _ _ .nil))))))) (by (first | lia | omega)) (by show _ < ((6 : Nat) : Int); (first | lia | omega)) (by decide) (by rfl) ?_
  intro tm
  obtain ⟨hm1, hm2, hm3⟩ := menus_ok _ (getD_mem (d := Str.empty) hmk)
  generalize menus.getD (cellAt ns 1 % 6).toNat Str.empty = menu at hm1 hm2 hm3 S ⊢
  replace S := S.tl rfl
  walk_at "go"
  refine l_new S (by decide) ?_; clear S; intro D s S _
  walk_at "go"
  refine r_range S ?_; clear S; intro r t1 t2 t3 s hr S
  refine it_range S R.handled hr (by (first | lia | omega)) (by (first | lia | omega)) ?_
  intro it s I
  refine loop_it (fun i ρ Λ => (∃ a b, ρ = [(Str.ofString "_law_script", some (.ref l)), (Str.ofString "_law_first", some (.int first tf)), (Str.ofString "_law_high", some (.int hi th)), (Str.ofString "_law_wide", some (.int wi tw)), (Str.ofString "_law_menu", some (.str menu tm)), (Str.ofString "_law_rows_here", some (.ref D)), (Str.ofString "_law_row", a), (Str.ofString "_law_signs", b)]) ∧
    ∃ ys k rows, Λ = [(D, lst ys k)] ∧ StrsAre ys.toList rows ∧ rows.length = i ∧ ∀ r ∈ rows, r.length = wi.toNat ∧ ∀ c ∈ r.cps.toList, four c) I ⟨⟨_, _, rfl⟩, _, _, [], rfl, .nil, rfl, fun _ h => nomatch h⟩ ?_ ?_ ?_
  · rintro i ρ' Λ' ⟨_, ys, k, rows, rfl, _⟩; rfl
  · rintro i v' ρ₁ Λ₁ hi1 ⟨tr, rfl⟩ ⟨⟨a, b, rfl⟩, ys, ky, rows, rfl, hys, hlen, hrows⟩
    refine ⟨_, .tail (.tail (.tail (.tail (.tail (.tail .head))))), ?_⟩
    walk_at "turn"
    refine' x_lc [(Str.ofString "_law_menu", some (.str menu tm)), (Str.ofString "_law_script", some (.ref l)), (Str.ofString "_law_row", some (.int i tr)), (Str.ofString "_law_wide", some (.int wi tw))] (fun _ => true) (FS fun x => ∃ c, x = ⟨#[c]⟩ ∧ four c) ?z_sw S ?z_ok ?z_hy ?z_ek ?z_sel ?_ ?z_hs
    case z_sw => rfl
    case z_ok => kernel_rfl
    case z_hy => kernel_rfl
    case z_ek => rfl
    case z_sel => exact Sel.cons (by walk_at "lk") (Sel.cons (by walk_at "lk") (Sel.cons (by walk_at "lk") (Sel.cons (by walk_at "lk") Sel.nil)))
    case z_hs => intro _; rfl
    walk_at "go"
    refine r_range S ?_; clear S; intro r t1 t2 t3 s hr S
    refine it_range S R.handled hr (by (first | lia | omega)) (by (first | lia | omega)) ?_
    intro it s I
    refine comp_it I (by (first | lia | omega)) ?_ ?_ ?_
    · intro C j v s E' hlt hv S
      exact tests0 ⟨rfl, keeps_refl _⟩
    · intro C j v s E' hlt hv hp S
      obtain ⟨t, rfl⟩ := hv
      walk_at "go"
      refine number_spec (S.gr G) (R.in_ (by (first | lia | omega))) (hl.mono (k.trans S.base)) hn ?_ ?_
      · have := Int.mul_nonneg (show 0 ≤ (i : Int) by (first | lia | omega)) h2
        (first | lia | omega)
      intro n t s' hn0 hk; replace S := CS.keeps S hk; clear hk
      walk_at "go"
      refine t_len S (by (first | lia | omega)) ?_; clear S; intro t s S
      have hml : 0 < (menu.length : Int) := by (first | lia | omega)
      walk_at "go"
      have e1 := Int.emod_nonneg n (Int.ne_of_gt hml)
      have e2 := Int.emod_lt_of_pos n hml
      refine t_at S e1 e2 (by (first | lia | omega)) (by rfl) ?_; clear S; intro t s S
      exact ⟨⟨_, _, rfl, _, rfl, hm3 _ (agetD_mem (by have : menu.cps.size = menu.length := rfl; (first | lia | omega)))⟩, S.quiet⟩
    · intro Ds ks yss vs g1 g2 g3 hD
      refine ⟨_, by walk_at "pt", fun s S => ?_⟩
      obtain ⟨xs, hx1, hx2, hx3⟩ := pairS g3
      rw [filt_true, g1] at hx2
      obtain ⟨j1, j2⟩ := join_signs xs hx3
      walk_at "go"
      have hsum : (xs.map (·.length)).sum + xs.length * (Str.ofString "").length ≤ 16777216 := by
        have e0 : (Str.ofString "").length = 0 := rfl
        have : (xs.map (·.length)).sum = xs.length := by
          clear hx1 hx2 j1 j2
          induction xs with
          | nil => rfl
          | cons x r ih =>
            obtain ⟨c, rfl, _⟩ := hx3 x (List.mem_cons_self ..)
            rw [List.map_cons, List.sum_cons, ih fun y hy => hx3 y (List.mem_cons_of_mem _ hy), List.length_cons]
            show 1 + _ = _
            (first | lia | omega)
        rw [e0, this, hx2]; (first | lia | omega)
      refine t_join S (StrL.of (S.atLed (List.mem_cons_self ..)) hx1) hsum ?_; clear S; intro tj s S
      walk_at "go"
      have hysz : ys.size = rows.length := by rw [← hys.length, Array.length_toList]
      refine l_append S (by walk_at "cf") (by (first | lia | omega)) ?_; clear S; intro k' s S
      walk_at "go"
      refine hNx _ _ _ _ (Sub.refl _) (S.tl rfl) ⟨⟨_, _, rfl⟩, _, _, rows ++ [Txt.join (Str.ofString "") xs], rfl, ?_, ?_, ?_⟩
      · rw [Array.toList_push]; exact hys.append' (.cons _ _ .nil)
      · simp [hlen]
      · intro r hr
        rcases List.mem_append.mp hr with q | q
        · exact hrows r q
        · rw [List.mem_singleton.mp q]
          exact ⟨by rw [j1, hx2], j2⟩
  · rintro ρ' Λ' s ⟨⟨a, b, rfl⟩, ys, ky, rows, rfl, hys, hlen, hrows⟩ S
    walk_at "go"
    refine h D ys ky rows (if rows = [] then 0 else wi.toNat) s ((S.led (D, _) (List.mem_cons_self ..)).2.2.2 rfl) (S.atLed (List.mem_cons_self ..)) hys ⟨by (first | lia | omega), by split <;> (first | lia | omega), fun r hr => ?_, fun e => if_pos e, fun r hr => (hrows r hr).2⟩ S.out
    rw [if_neg (List.ne_nil_of_mem hr)]
    exact (hrows r hr).1


theorem lmay_spec {w : World} {A : Around} {s : Shared} {Q E : Value → Shared → Prop} {l : Addr} {rows : List Str} {wd : Nat} {t u : Tok} {a c : Int} (G : Gr (Fl.kH w.params) s.heap) (R : Room A 1) (hl : StrL s.heap l rows) (g : Grid rows wd)
    (h : ∀ s', Keeps s s' → Q (.bool (mayL rows wd a c)) s') : wpAny (model PP w) A (call (.ref 287) [.ref l, .int a t, .int c u]) Q E s := by
  refine' callP [(Str.ofString "_law_rows_here", some (.ref l)), (Str.ofString "_law_one", some (.int a t)), (Str.ofString "_law_other", some (.int c u)), (Str.ofString "_law_wide", none), (Str.ofString "_law_a", none), (Str.ofString "_law_b", none)] G (by walk_at "room") ?z_ho ?z_hcd ?z_hbind ?z_hd ?z_hb1 ?z_hb2 ?z_hρ ?_
  walk_at "enter"
  intro L s S
  have hh := g.high
  have hww := g.wide
  have hcm : (wd : Int) * rows.length = rows.length * wd := Int.mul_comm ..
  refine x_cutS S (fun ρ Λ => (∃ tw, ρ = [(Str.ofString "_law_rows_here", some (.ref l)), (Str.ofString "_law_one", some (.int a t)), (Str.ofString "_law_other", some (.int c u)), (Str.ofString "_law_wide", some (.int wd tw)), (Str.ofString "_law_a", none), (Str.ofString "_law_b", none)]) ∧ Λ = []) ?_ ?_
  · intro Q' hQ
    walk_at "go"
    refine l_lenS S (hl.mono S.base) (by (first | lia | omega)) ?_; clear S; intro t s S
    walk_at "go"
    refine i_dec (fun hp => ?_) (fun hp => ?_)
    · walk_at "go"
      refine l_atS (hl.mono S.base) (by (first | lia | omega)) (by (first | lia | omega)) (by (first | lia | omega)) (by rfl) ?_
      intro t
      have hr0 := row_len g (show (0 : Int).toNat < rows.length by rw [Int.toNat_zero]; (first | lia | omega))
      walk_at "go"
      refine t_len S (by (first | lia | omega)) ?_; clear S; intro t s S
      rw [hr0]
      walk_at "go"
      exact hQ _ _ _ ⟨⟨_, rfl⟩, rfl⟩ S
    · have hwd : wd = 0 := g.none (List.length_eq_zero_iff.mp (by (first | lia | omega)))
      subst hwd
      walk_at "go"
      exact hQ _ _ _ ⟨⟨_, rfl⟩, rfl⟩ S
  clear S
  rintro ρ' Λ' s ⟨⟨tw, rfl⟩, rfl⟩ S
  have hin : ∀ p : Int, inB rows wd p = (decide (0 ≤ p) && decide (p < wd * rows.length)) := fun p => by rw [inB, hcm]
  have hF : (inB rows wd a = false ∨ inB rows wd c = false) → mayL rows wd a c = false := fun q => by unfold mayL; rcases q with q | q <;> simp [q]
  walk_at "go"
  refine i_dec (fun p1 => ?_) (fun p1 => ?_)
  · walk_at "go"
    refine l_lenS S (hl.mono S.base) (by (first | lia | omega)) ?_; clear S; intro t s S
    walk_at "go"
    refine i_dec (fun p2 => ?_) (fun p2 => ?_)
    · walk_at "go"
      refine i_dec (fun p3 => ?_) (fun p3 => ?_)
      · walk_at "go"
        refine l_lenS S (hl.mono S.base) (by (first | lia | omega)) ?_; clear S; intro t s S
        walk_at "go"
        refine i_dec (fun p4 => ?_) (fun p4 => ?_)
        · skip
          have i1 : inB rows wd a = true := by rw [hin]; simp [p1, p2]
          have i2 : inB rows wd c = true := by rw [hin]; simp [p3, p4]
          have hm : mayL rows wd a c = (if a / wd = c / wd ∧ (a - c).natAbs = 1 then alongB (sg rows wd a) && alongB (sg rows wd c)
            else if a % wd = c % wd ∧ (a / wd - c / wd).natAbs = 1 then acrossB (sg rows wd a) && acrossB (sg rows wd c) else false) := by rw [mayL, i1, i2, Bool.and_true, Bool.true_and]
          rw [hm] at h
          obtain ⟨w1, a1, a2, a3, a4⟩ := g.at_ p1 (by (first | lia | omega) : a < rows.length * wd)
          obtain ⟨_, c1, c2, c3, c4⟩ := g.at_ p3 (by (first | lia | omega) : c < rows.length * wd)
          have hw1 : 0 < (wd : Int) := by (first | lia | omega)
          have e_along : Str.ofString ".-" = ⟨#[46, 45]⟩ := by decide +kernel
          have e_across : Str.ofString ".|" = ⟨#[46, 124]⟩ := by decide +kernel
          have hla := row_len g (show (a / wd).toNat < rows.length by (first | lia | omega))
          have hlc := row_len g (show (c / wd).toNat < rows.length by (first | lia | omega))
          walk_at "go"
          refine l_atS (hl.mono S.base) a1 a2 (by (first | lia | omega)) (by rfl) ?_
          intro t
          walk_at "go"
          refine t_at S a3 (by (first | lia | omega)) (by (first | lia | omega)) (by rfl) ?_; clear S; intro t s S
          walk_at "go"
          refine l_atS (hl.mono S.base) c1 c2 (by (first | lia | omega)) (by rfl) ?_
          intro t
          walk_at "go"
          refine t_at S c3 (by (first | lia | omega)) (by (first | lia | omega)) (by rfl) ?_; clear S; intro t s S
          walk_at "go"
          refine i_eq (fun q1 => ?_) (fun q1 => ?_)
          · walk_at "go"
            refine i_eq (fun q2 => ?_) (fun q2 => ?_)
            · walk_at "go"
              rw [if_pos (⟨q1, by (first | lia | omega)⟩ : a / wd = c / wd ∧ (a - c).natAbs = 1)] at h
              rw [e_along, along_in]
              refine i_bool (fun hf => ?_) (fun hf => ?_)
              · walk_at "go"
                rw [along_in]
                have := h _ S.out
                rw [show alongB (sg rows wd a) = true from hf, Bool.true_and] at this
                exact this
              · rw [hf]
                walk_at "go"
                have := h _ S.out
                rw [show alongB (sg rows wd a) = false from hf, Bool.false_and] at this
                exact this
            · walk_at "go"
              rw [if_neg (fun q => q2 (by (first | lia | omega)) : ¬ (a / wd = c / wd ∧ (a - c).natAbs = 1))] at h
              refine i_eq (fun q3 => ?_) (fun q3 => ?_)
              · walk_at "go"
                refine i_eq (fun q4 => ?_) (fun q4 => ?_)
                · walk_at "go"
                  rw [if_pos (⟨q3, by (first | lia | omega)⟩ : a % wd = c % wd ∧ (a / wd - c / wd).natAbs = 1)] at h
                  rw [e_across, across_in]
                  refine i_bool (fun hf => ?_) (fun hf => ?_)
                  · walk_at "go"
                    rw [across_in]
                    have := h _ S.out
                    rw [show acrossB (sg rows wd a) = true from hf, Bool.true_and] at this
                    exact this
                  · rw [hf]
                    walk_at "go"
                    have := h _ S.out
                    rw [show acrossB (sg rows wd a) = false from hf, Bool.false_and] at this
                    exact this
                · walk_at "go"
                  rw [if_neg (fun q => q4 (by (first | lia | omega)) : ¬ (a % wd = c % wd ∧ (a / wd - c / wd).natAbs = 1))] at h
                  exact h _ S.out
              · walk_at "go"
                rw [if_neg (fun q => q3 q.1 : ¬ (a % wd = c % wd ∧ (a / wd - c / wd).natAbs = 1))] at h
                exact h _ S.out
          · walk_at "go"
            rw [if_neg (fun q => q1 q.1 : ¬ (a / wd = c / wd ∧ (a - c).natAbs = 1))] at h
            refine i_eq (fun q3 => ?_) (fun q3 => ?_)
            · walk_at "go"
              refine i_eq (fun q4 => ?_) (fun q4 => ?_)
              · walk_at "go"
                rw [if_pos (⟨q3, by (first | lia | omega)⟩ : a % wd = c % wd ∧ (a / wd - c / wd).natAbs = 1)] at h
                rw [e_across, across_in]
                refine i_bool (fun hf => ?_) (fun hf => ?_)
                · walk_at "go"
                  rw [across_in]
                  have := h _ S.out
                  rw [show acrossB (sg rows wd a) = true from hf, Bool.true_and] at this
                  exact this
                · rw [hf]
                  walk_at "go"
                  have := h _ S.out
                  rw [show acrossB (sg rows wd a) = false from hf, Bool.false_and] at this
                  exact this
              · walk_at "go"
                rw [if_neg (fun q => q4 (by (first | lia | omega)) : ¬ (a % wd = c % wd ∧ (a / wd - c / wd).natAbs = 1))] at h
                exact h _ S.out
            · walk_at "go"
              rw [if_neg (fun q => q3 q.1 : ¬ (a % wd = c % wd ∧ (a / wd - c / wd).natAbs = 1))] at h
              exact h _ S.out
        · walk_at "go"
          have := h _ S.out
          rw [hF (Or.inr (by rw [hin]; simp [p3, p4]))] at this
          exact this
      · walk_at "go"
        have := h _ S.out
        rw [hF (Or.inr (by rw [hin]; simp [p3]))] at this
        exact this
    · walk_at "go"
      have := h _ S.out
      rw [hF (Or.inl (by rw [hin]; simp [p1, p2]))] at this
      exact this
  · walk_at "go"
    have := h _ S.out
    rw [hF (Or.inl (by rw [hin]; simp [p1]))] at this
    exact this


theorem lcells_spec {w : World} {A : Around} {s : Shared} {Q E : Value → Shared → Prop} {l : Addr} {rows : List Str} {wd : Nat} (G : Gr (Fl.kH w.params) s.heap) (R : Room A 1) (hl : StrL s.heap l rows) (g : Grid rows wd)
    (h : ∀ D ys k s', s.heap.get? D = none → s'.heap.get? D = some (lst ys k) → IntsAre ys.toList (cellsL rows wd) → Keeps s s' → Q (.ref D) s') : wpAny (model PP w) A (call (.ref 292) [.ref l]) Q E s := by
  refine' callP [(Str.ofString "_law_rows_here", some (.ref l)), (Str.ofString "_law_signs", none)] G (by walk_at "room") ?z_ho ?z_hcd ?z_hbind ?z_hd ?z_hb1 ?z_hb2 ?z_hρ ?_
  walk_at "enter"
  intro L s S
  have hh := g.high
  have hww := g.wide
  obtain ⟨hl1, hl2⟩ := len_wd g
  have hjl := joined_len g
  walk_at "go"
  have hsum : (rows.map (·.length)).sum + rows.length * (Str.ofString "").length ≤ 16777216 := by
    have e0 : (Str.ofString "").length = 0 := rfl
    have : (rows.map (·.length)).sum = rows.length * wd := by
      have hlen := g.len
      clear hjl hl1 hl2 hh hl h g S
      induction rows with
      | nil => simp
      | cons x r ih =>
        rw [List.map_cons, List.sum_cons, ih fun y hy => hlen y (List.mem_cons_of_mem _ hy), hlen x (List.mem_cons_self ..), List.length_cons, Nat.succ_mul]
        (first | lia | omega)
    rw [e0, this]; (first | lia | omega)
  refine t_join S (hl.mono S.base) hsum ?_; clear S; intro tj s S
  walk_at "go"
  refine' lc [(Str.ofString "_law_signs", some (.str (Txt.join (Str.ofString "") rows) tj))] (onI (hasB rows wd)) (FII id) S ?z_ok ?z_sel ?_ ?z_hs
  case z_ok => kernel_rfl
  case z_sel => exact Sel.cons (by walk_at "lk") Sel.nil
  case z_hs => intro _; rfl
  walk_at "go"
  refine t_len S (by (first | lia | omega)) ?_; clear S; intro t s S
  walk_at "go"
  refine r_range S ?_; clear S; intro r t1 t2 t3 s hr S
  refine it_range S R.handled hr (by (first | lia | omega)) (by (first | lia | omega)) ?_
  intro it s I
  refine comp_it I (by (first | lia | omega)) ?_ ?_ ?_
  · intro C i v s E' hlt hv S
    obtain ⟨t, rfl⟩ := hv
    refine tests1 ?_
    walk_at "go"
    have hil : (i : Int) < (Txt.join (Str.ofString "") rows).length := by (first | lia | omega)
    refine t_at S (by (first | lia | omega)) hil (by (first | lia | omega)) (by rfl) ?_; clear S; intro t s S
    walk_at "go"
    refine ⟨?_, S.quiet⟩
    have hw : 0 < wd := by
      rcases Nat.eq_zero_or_pos wd with q | q
      · rw [hjl, q] at hil; simp at hil; (first | lia | omega)
      · exact q
    have e35 : Str.ofString "#" = ⟨#[35]⟩ := by decide +kernel
    rw [Int.toNat_natCast, joined_get g i hw, e35, one_ne]
    show _ = (inB rows wd i && _)
    have : inB rows wd i = true := by simp [inB]; rw [hl2]; (first | lia | omega)
    rw [this, Bool.true_and]
  · intro C i v s E' hlt hv hp S
    obtain ⟨t, rfl⟩ := hv
    walk_at "go"
    exact ⟨⟨_, _, _, rfl, rfl⟩, S.quiet⟩
  · intro D k ys vs h1 h2 h3 hD s' S
    walk_at "go"
    refine h D ys k s' (I.cs.base.none hD) (S.atLed (List.mem_cons_self ..)) ?_ S.out
    have := pairII (filtI (vs_range h1 h2)) h3
    rw [hjl, Int.toNat_natCast, List.map_id] at this
    exact this



theorem whole_spec {w : World} {A : Around} {s : Shared} {Q E : Value → Shared → Prop} {n : Int} {t : Tok} (G : Gr (Fl.kH w.params) s.heap) (R : Room A 1)
    (h : ∀ s', Keeps s s' → Q (.bool true) s') : wpAny (model PP w) A (call (.ref 304) [.int n t]) Q E s := by
  refine' callP [(Str.ofString "_law_found", some (.int n t))] G (by walk_at "room") ?z_ho ?z_hcd ?z_hbind ?z_hd ?z_hb1 ?z_hb2 ?z_hρ ?_
  walk_at "enter"
  intro L s S
  walk_at "go"
  exact h _ S.out



theorem cells_len (rows : List Str) (wd : Nat) : (cellsL rows wd).length ≤ rows.length * wd := by
  unfold cellsL
  refine Nat.le_trans (List.length_filter_le ..) ?_
  simp



theorem shade_spec {w : World} {A : Around} {s : Shared} {Q E : Value → Shared → Prop} {fl l : Addr} {rows : List Str} {wd : Nat} {t1 t2 t : Tok} {p : Int} (G : Gr (Fl.kH w.params) s.heap) (R : Room A 1) (F : FloorAt 196 s.heap fl l rows wd t1 t2)
    (h : ∀ t s', Keeps s s' → Q (.int (shadeN wd p) t) s') : wpAny (model PP w) A (call (.ref 179) [.ref fl, .int p t]) Q E s := by
  refine' callP [(Str.ofString "self", some (.ref fl)), (Str.ofString "place", some (.int p t))] G (by walk_at "room") ?z_ho ?z_hcd ?z_hbind ?z_hd ?z_hb1 ?z_hb2 ?z_hρ ?_
  walk_at "enter"
  intro L s S
  have hww := F.grid.wide
  walk_at "go"
  refine i_eq (fun hc => ?_) (fun hc => ?_)
  · walk_at "go"
    rw [shadeN, if_pos (by (first | lia | omega))] at h
    exact h _ _ S.out
  · have hw1 : 0 < (wd : Int) := by (first | lia | omega)
    walk_at "go"
    rw [shadeN, if_neg (by (first | lia | omega))] at h
    exact h _ _ S.out

theorem beside_spec {w : World} {A : Around} {s : Shared} {Q E : Value → Shared → Prop} {fl l : Addr} {rows : List Str} {wd : Nat} {t1 t2 tp : Tok} {p : Int} (G : Gr (Fl.kH w.params) s.heap) (R : Room A 4) (F : FloorAt 196 s.heap fl l rows wd t1 t2) (hc : hasB rows wd p = true)
    (h : ∀ D ys k s', s.heap.get? D = none → s'.heap.get? D = some (lst ys k) → IntsAre ys.toList (besideL rows wd p) → Keeps s s' → Q (.ref D) s') : wpAny (model PP w) A (call (.ref 193) [.ref fl, .int p tp]) Q E s := by
  refine' callP [(Str.ofString "self", some (.ref fl)), (Str.ofString "cell", some (.int p tp)), (Str.ofString "found", none), (Str.ofString "other", none)] G (by walk_at "room") ?z_ho ?z_hcd ?z_hbind ?z_hd ?z_hb1 ?z_hb2 ?z_hρ ?_
  walk_at "enter"
  intro L s S
  walk_at "go"
  refine has_spec (S.gr G) (R.in_ (by (first | lia | omega))) (F.mono S.base) ?_
  walk_at "kp"
  rw [hc]
  walk_at "go"
  refine l_new S (by simp) ?_; clear S; intro lf s S _
  walk_at "go"
  refine l_new S (by simp) ?_; clear S; intro ln s S _
  obtain ⟨h₁, k₁, hln, S'⟩ := S.freeze
  clear S
  replace G := G.mono k₁
  replace F := F.mono k₁
  refine it_list S' R.handled hln rfl ⟨_, rfl⟩ ?_
  clear S'
  intro it s I
  refine loop_it (fun i ρ Λ => ∃ a ys k, ρ = [(Str.ofString "self", some (.ref fl)), (Str.ofString "cell", some (.int p tp)), (Str.ofString "found", some (.ref lf)), (Str.ofString "other", a)] ∧ Λ = [(lf, lst ys k)] ∧ IntsAre ys.toList (gath (mayB rows wd p) ((nearL wd p).take i)) ∧ ys.size ≤ i) I ⟨_, _, _, rfl, rfl, .nil, Nat.le_refl _⟩ ?_ ?_ ?_
  · rintro i ρ' Λ' ⟨_, _, _, _, rfl, _⟩; rfl
  · rintro i v ρ₁ Λ₁ hi1 hv ⟨a, ys, ky, rfl, rfl, hys, hsz⟩
    obtain ⟨y, ty, rfl, hy⟩ := ints_arr (ns := nearL wd p) hv (.cons _ _ (.cons _ _ (.cons _ _ (.cons _ _ .nil))))
    have hi4 : i < 4 := hi1
    have e : (nearL wd p).take (i + 1) = (nearL wd p).take i ++ [y] := by rw [List.take_add_one, hy]; rfl
    refine ⟨_, .tail (.tail (.tail .head)), ?_⟩
    walk_at "turn"
    replace F := F.mono k
    clear k
    walk_at "go"
    refine l_notin (IntL.of (S.atLed (by walk_at "mm")) hys) ?_
    walk_at "go"
    refine i_dec (fun q1 => ?_) (fun q1 => ?_)
    · walk_at "go"
      refine hNx _ _ _ _ (Sub.refl _) S ⟨_, _, _, rfl, rfl, ?_, by (first | lia | omega)⟩
      rw [e, gath_snoc, if_neg (fun q => q.1 q1)]
      exact hys
    · walk_at "go"
      refine may_spec (S.gr G) (R.in_ (by (first | lia | omega))) (F.mono S.base) ?_
      walk_at "kp"
      walk_at "go"
      refine i_bool (fun q2 => ?_) (fun q2 => ?_)
      · walk_at "go"
        refine l_append S (by walk_at "cf") (by (first | lia | omega)) ?_; clear S; intro k' s S
        walk_at "go"
        refine hNx _ _ _ _ (Sub.refl _) S ⟨_, _, _, rfl, rfl, ?_, by rw [Array.size_push]; (first | lia | omega)⟩
        rw [e, gath_snoc, if_pos ⟨q1, q2⟩, Array.toList_push]
        exact hys.append (.cons _ _ .nil)
      · walk_at "go"
        refine hNx _ _ _ _ (Sub.refl _) S ⟨_, _, _, rfl, rfl, ?_, by (first | lia | omega)⟩
        rw [e, gath_snoc, if_neg (fun q => by rw [q2] at q; exact absurd q.2 (by decide))]
        exact hys
  rintro ρ' Λ' s ⟨a, ys, k, rfl, rfl, hys, hsz⟩ S
  walk_at "go"
  exact h lf ys k s (k₁.none ((S.led (lf, _) (List.mem_cons_self ..)).2.2.2 rfl)) (S.atLed (List.mem_cons_self ..)) hys (S.outs k₁)



theorem lbeside_spec {w : World} {A : Around} {s : Shared} {Q E : Value → Shared → Prop} {l : Addr} {rows : List Str} {wd : Nat} {tp : Tok} {p : Int} (G : Gr (Fl.kH w.params) s.heap) (R : Room A 2) (hl : StrL s.heap l rows) (g : Grid rows wd) (hc : hasB rows wd p = true)
    (h : ∀ D ys k s', s.heap.get? D = none → s'.heap.get? D = some (lst ys k) → IntsAre ys.toList (besideL rows wd p) → Keeps s s' → Q (.ref D) s') : wpAny (model PP w) A (call (.ref 297) [.ref l, .int p tp]) Q E s := by
  refine' callP [(Str.ofString "_law_rows_here", some (.ref l)), (Str.ofString "_law_place", some (.int p tp)), (Str.ofString "_law_wide", none), (Str.ofString "_law_near", none)] G (by walk_at "room") ?z_ho ?z_hcd ?z_hbind ?z_hd ?z_hb1 ?z_hb2 ?z_hρ ?_
  walk_at "enter"
  intro L s S
  have hh := g.high
  have hww := g.wide
  obtain ⟨p0, p1⟩ := hasB_in hc
  obtain ⟨hw, a1, a2, _⟩ := g.at_ p0 p1
  have hr0 := row_len g (show (0 : Int).toNat < rows.length by rw [Int.toNat_zero]; (first | lia | omega))
  walk_at "go"
  refine l_atS (hl.mono S.base) (by (first | lia | omega)) (by (first | lia | omega)) (by (first | lia | omega)) (by rfl) ?_
  intro tt
  walk_at "go"
  refine t_len S (by (first | lia | omega)) ?_; clear S; intro tw s S
  rw [hr0]
  walk_at "go"
  refine l_new S (by simp) ?_; clear S; intro l1 s S _
  walk_at "gu"
  refine x_cutS S (fun ρ Λ => ∃ ln ys k, ρ = [(Str.ofString "_law_rows_here", some (.ref l)), (Str.ofString "_law_place", some (.int p tp)), (Str.ofString "_law_wide", some (.int wd tw)), (Str.ofString "_law_near", some (.ref ln))] ∧ Λ = [(ln, lst ys k)] ∧ IntsAre ys.toList (lnearL wd p) ∧ ys.size ≤ 4) ?_ ?_
  · intro Q' hQ
    walk_at "go"
    refine i_dec (fun q => ?_) (fun q => ?_)
    · walk_at "go"
      refine l_new S (by simp) ?_; clear S; intro l2 s S _
      walk_at "go"
      refine hQ _ _ _ ⟨_, _, _, rfl, rfl, ?_, by simp⟩ S.one
      rw [lnearL, if_pos (by (first | lia | omega))]
      exact .cons _ _ (.cons _ _ (.cons _ _ (.cons _ _ .nil)))
    · walk_at "go"
      refine hQ _ _ _ ⟨_, _, _, rfl, rfl, ?_, by simp⟩ S
      rw [lnearL, if_neg (by (first | lia | omega))]
      exact .cons _ _ (.cons _ _ .nil)
  clear S
  rintro ρ' Λ' s ⟨ln, yn, kn, rfl, rfl, hyn, hsz⟩ S
  obtain ⟨h₁, k₁, hln, S'⟩ := S.freeze
  replace S := S'
  clear S'
  replace G := G.mono k₁
  replace hl := hl.mono k₁
  walk_at "go"
  refine' lc [(Str.ofString "_law_rows_here", some (.ref l)), (Str.ofString "_law_place", some (.int p tp))] (onI (mayL rows wd p)) (FII id) S ?z_ok ?z_sel ?_ ?z_hs
  case z_ok => kernel_rfl
  case z_sel => exact Sel.cons (by walk_at "lk") (Sel.cons (by walk_at "lk") Sel.nil)
  case z_hs => intro _; rfl
  walk_at "go"
  refine it_list S R.handled hln rfl ⟨_, rfl⟩ ?_
  intro it s I
  refine comp_it I (by (first | lia | omega)) ?_ ?_ ?_
  · intro C i v s E' hlt hv S
    obtain ⟨y, ty, rfl, hy⟩ := hyn.at i v (by simpa using hv)
    refine tests1 ?_
    walk_at "go"
    refine lmay_spec (S.gr G) (R.in_ (by (first | lia | omega))) (hl.mono S.base) g ?_
    walk_at "kp"
    walk_at "go"
    exact ⟨rfl, S.quiet⟩
  · intro C i v s E' hlt hv hp S
    obtain ⟨y, ty, rfl, hy⟩ := hyn.at i v (by simpa using hv)
    walk_at "go"
    exact ⟨⟨_, _, _, rfl, rfl⟩, S.quiet⟩
  · intro D k ys vs h1 h2 h3 hD s' S
    walk_at "go"
    refine h D ys k s' (k₁.none (I.cs.base.none hD)) (S.atLed (List.mem_cons_self ..)) ?_ (S.outs k₁)
    have hv := vs_list h1 h2
    subst hv
    have := pairII (filtI hyn) h3
    rw [List.map_id] at this
    rw [beside_eq g hc]
    exact this


theorem big_heap {K : Frag} {h : Heap} (G : Gr K h) : 1 < h.objs.size := by
  obtain ⟨mg, o, es, ep, e, _⟩ := G.g
  exact Nat.lt_of_le_of_lt (show 1 ≤ mainGlobals by decide) (Heap.lt_size e)
theorem not_mods {d : Addr} (h : 1 < d) : (d == sysModules) = false := by
  rw [beq_eq_false_iff_ne]
  intro q
  rw [q] at h
  exact absurd h (by decide)
theorem mput_len {α : Type} (m : Mp α) (k : Int) (a : α) : (mput m k a).length ≤ m.length + 1 := by
  unfold mput
  split
  · rw [List.length_map]; (first | lia | omega)
  · rw [List.length_append]; simp
theorem mdel_len {α : Type} (m : Mp α) (k : Int) : (mdel m k).length ≤ m.length := List.length_filter_le ..
/-- a laying of the program's own: its floor, its dict -/
abbrev LayO (h : Heap) (ly fl d : Addr) : Prop := ObjAt h 257 ly [(Str.ofString "floor", .ref fl), (Str.ofString "over", .ref d)]
/-- the same by its two objects -/
structure LayP (h : Heap) (ly dx : Addr) (o2 : Obj) (fl d : Addr) : Prop where
  a1 : h.get? ly = some (instObj 257 dx)
  a2 : h.get? dx = some o2
  lk : ∀ n, lookIn n o2 = some (List.lookup n [(Str.ofString "floor", .ref fl), (Str.ofString "over", .ref d)])
theorem LayP.mono {h h' : Heap} {ly dx fl d : Addr} {o2 : Obj} (P : LayP h ly dx o2 fl d) (k : Sub h h') : LayP h' ly dx o2 fl d := ⟨k _ _ P.a1, k _ _ P.a2, P.lk⟩
theorem LayP.obj {h : Heap} {ly dx fl d : Addr} {o2 : Obj} (P : LayP h ly dx o2 fl d) : LayO h ly fl d :=
  ⟨(show [Str.ofString "floor", Str.ofString "over"].Nodup by decide +kernel), instObj 257 dx, o2, ⟨P.a1, rfl, rfl, P.a2⟩, P.lk⟩

theorem fieldsY {a b : Value} {n : Str} : (if n = Str.ofString "over" then some b else if n = Str.ofString "floor" then some a else none) = List.lookup n [(Str.ofString "floor", a), (Str.ofString "over", b)] := by
  have d1 : Str.ofString "floor" ≠ Str.ofString "over" := by decide +kernel
  simp only [List.lookup_cons, List.lookup_nil]
  by_cases h1 : n = Str.ofString "floor"
  · subst h1; simp [d1]
  · by_cases h2 : n = Str.ofString "over"
    · subst h2; simp [beq_eq_false_iff_ne.mpr d1.symm]
    · simp [h1, h2, beq_eq_false_iff_ne.mpr h1, beq_eq_false_iff_ne.mpr h2]

theorem laying_spec {w : World} {A : Around} {s : Shared} {Q E : Value → Shared → Prop} {fl : Addr} (G : Gr (Fl.kH w.params) s.heap) (R : Room A 3)
    (h : ∀ ly dx o2 d od s', LayP s'.heap ly dx o2 fl d → s.heap.get? ly = none → s.heap.get? dx = none → ly ≠ d → dx ≠ d → (∀ (α : Type) (Rv : α → Value → Prop), DG PP w Rv od []) → s.heap.get? d = none → s'.heap.get? d = some od → (d == sysModules) = false → Keeps s s' → Q (.ref ly) s') : wpAny (model PP w) A (call (.ref 257) [.ref fl]) Q E s := by
  refine' makeK (f := 214) (fun v => [(Str.ofString "self", v), (Str.ofString "floor", .ref fl)]) (fun v => [(Str.ofString "self", some v), (Str.ofString "floor", some (.ref fl))]) G (by walk_at "room") ?z_m ?z_i ?z_f ?z_ho ?z_hcd ?z_hbind ?z_hd ?z_hb1 ?z_hb2 ?z_hρ ?_
  case z_m => kernel_rfl
  case z_i => kernel_rfl
  case z_f => kernel_rfl
  case z_ho => k_is
  case z_hcd => k_is
  case z_hbind => intro _; rfl
  case z_hd => kernel_rfl
  case z_hb1 => intro _; kernel_rfl
  case z_hb2 => intro _; kernel_rfl
  case z_hρ => intro _; kernel_rfl
  intro x dx L s hx hdx S
  have hn0 := NsO.nil
  walk_at "go"
  walk_at "store"
  walk_at "go"
  have hbig := big_heap (S.gr G)
  refine d_new S ?_; clear S; intro d od s Dn S hd hdq
  walk_at "go"
  walk_at "store"
  walk_at "go"
  have nd := S.lnd
  simp only [List.map_cons, List.map_nil, List.nodup_cons, List.mem_cons, List.not_mem_nil, or_false, not_or] at nd
  refine ⟨rfl, h x dx _ d od _ ⟨S.atLed (by walk_at "mm"), S.atLed (by walk_at "mm"), fun n => ?_⟩ hx hdx (Ne.symm nd.1.1) (Ne.symm nd.1.2) Dn ((S.led (d, od) (List.mem_cons_self ..)).2.2.2 rfl) (S.atLed (List.mem_cons_self ..)) (not_mods (hdq ▸ hbig)) S.out⟩
  rw [NsO.look (by assumption), fieldsY]



theorem need_spec {w : World} {A : Around} {s : Shared} {Q E : Value → Shared → Prop} {ly fl l d : Addr} {rows : List Str} {wd : Nat} {t1 t2 tp : Tok} {p : Int} (G : Gr (Fl.kH w.params) s.heap) (R : Room A 3) (F : FloorAt 196 s.heap fl l rows wd t1 t2) (Y : LayO s.heap ly fl d) (hp : hasB rows wd p = true)
    (h : ∀ s', Keeps s s' → Q .none s') : wpAny (model PP w) A (call (.ref 221) [.ref ly, .int p tp]) Q E s := by
  refine' callP [(Str.ofString "self", some (.ref ly)), (Str.ofString "cell", some (.int p tp))] G (by walk_at "room") ?z_ho ?z_hcd ?z_hbind ?z_hd ?z_hb1 ?z_hb2 ?z_hρ ?_
  walk_at "enter"
  intro L s S
  walk_at "go"
  refine has_spec (S.gr G) (R.in_ (by (first | lia | omega))) (F.mono S.base) ?_
  walk_at "kp"
  rw [hp]
  walk_at "go"
  exact h _ S.out



theorem put_spec {w : World} {A : Around} {s : Shared} {Q E : Value → Shared → Prop} {ly fl l d : Addr} {od : Obj} {m : Mp Int} {rows : List Str} {wd : Nat} {t1 t2 ta tb : Tok} {a b : Int} {B : Heap} (hB : Sub B s.heap) (hd0 : B.get? d = none) (G : Gr (Fl.kH w.params) B) (R : Room A 4) (F : FloorAt 196 B fl l rows wd t1 t2) (Y : LayO B ly fl d)
    (hod : s.heap.get? d = some od) (D : DG PP w RInt od m) (hds : (d == sysModules) = false) (hm : mayB rows wd a b = true) (ha : mget m a = none) (hb : mget m b = none) (hlen : m.length ≤ 1000)
    (h : ∀ od' s', DG PP w RInt od' (mput (mput m a b) b a) → Upd d od' s s' → Q .none s') : wpAny (model PP w) A (call (.ref 228) [.ref ly, .int a ta, .int b tb]) Q E s := by
  obtain ⟨W, w1, w2, w3⟩ := but_one s d
  have kB : Sub B W := fun x o e => w3 x o (fun q => by rw [q, hd0] at e; cases e) (hB x o e)
  refine' callK (h₀ := W) (Λ := [(d, od)]) [(Str.ofString "self", some (.ref ly)), (Str.ofString "one", some (.int a ta)), (Str.ofString "other", some (.int b tb))] (G.mono hB) (by walk_at "room") ?z_ho ?z_hcd ?z_hbind ?z_hd ?z_hb1 ?z_hb2 ?z_hρ w1 (fun p hp => ?z_led) (by simp) ?_
  case z_led => rw [List.mem_singleton.mp hp]; exact ⟨hod, w2⟩
  walk_at "enter"
  intro L s S
  replace G := G.mono kB
  replace F := F.mono kB
  replace Y := ObjAt.mono Y kB
  have hh := mayB_has hm
  have hl1 := mput_len m a b
  walk_at "go"
  refine need_spec (S.gr G) (R.in_ (by (first | lia | omega))) (F.mono S.base) (ObjAt.mono Y S.base) hh.1 ?_
  walk_at "kp"
  walk_at "go"
  refine need_spec (S.gr G) (R.in_ (by (first | lia | omega))) (F.mono S.base) (ObjAt.mono Y S.base) hh.2 ?_
  walk_at "kp"
  walk_at "go"
  refine may_spec (S.gr G) (R.in_ (by (first | lia | omega))) (F.mono S.base) ?_
  walk_at "kp"
  rw [hm]
  walk_at "go"
  refine d_in S (S.atLed (List.mem_cons_self ..)) D hds ?_; clear S; intro s S
  rw [ha, Option.isSome_none]
  walk_at "go"
  refine d_in S (S.atLed (List.mem_cons_self ..)) D hds ?_; clear S; intro s S
  rw [hb, Option.isSome_none]
  walk_at "go"
  refine d_set (a := b) S (by walk_at "cf") D ⟨_, rfl⟩ (by (first | lia | omega)) ?_; clear S; intro od1 s D1 S
  walk_at "go"
  refine d_set (a := a) S (by walk_at "cf") D1 ⟨_, rfl⟩ (by (first | lia | omega)) ?_; clear S; intro od2 s D2 S
  walk_at "go"
  exact h od2 s D2 ⟨S.same, fun x o hx e => S.base _ _ (w3 x o hx e), S.atLed (List.mem_cons_self ..)⟩



theorem lift_spec {w : World} {A : Around} {s : Shared} {Q E : Value → Shared → Prop} {ly fl l d : Addr} {od : Obj} {m : Mp Int} {rows : List Str} {wd : Nat} {t1 t2 ta : Tok} {a v : Int} {B : Heap} (hB : Sub B s.heap) (hd0 : B.get? d = none) (G : Gr (Fl.kH w.params) B) (R : Room A 4) (F : FloorAt 196 B fl l rows wd t1 t2) (Y : LayO B ly fl d)
    (hod : s.heap.get? d = some od) (D : DG PP w RInt od m) (hds : (d == sysModules) = false) (M : LayM (mayB rows wd) m) (hv : mget m a = some v) (hlen : m.length ≤ 1000)
    (h : ∀ od' s', DG PP w RInt od' (mdel (mdel m a) v) → Upd d od' s s' → Q .none s') : wpAny (model PP w) A (call (.ref 235) [.ref ly, .int a ta]) Q E s := by
  obtain ⟨W, w1, w2, w3⟩ := but_one s d
  have kB : Sub B W := fun x o e => w3 x o (fun q => by rw [q, hd0] at e; cases e) (hB x o e)
  refine' callK (h₀ := W) (Λ := [(d, od)]) [(Str.ofString "self", some (.ref ly)), (Str.ofString "cell", some (.int a ta)), (Str.ofString "other", none)] (G.mono hB) (by walk_at "room") ?z_ho ?z_hcd ?z_hbind ?z_hd ?z_hb1 ?z_hb2 ?z_hρ w1 (fun p hp => ?z_led) (by simp) ?_
  case z_led => rw [List.mem_singleton.mp hp]; exact ⟨hod, w2⟩
  walk_at "enter"
  intro L s S
  replace G := G.mono kB
  replace F := F.mono kB
  replace Y := ObjAt.mono Y kB
  obtain ⟨hva, hm⟩ := M.inv a v hv
  have hh := mayB_has hm
  have hav : v ≠ a := fun e => by have := M.inv a v hv; rw [e] at hm; exact (gph F.grid).ne hm rfl
  have hv2 : mget (mdel m a) v = some a := by rw [mget_mdel, if_neg hav]; exact hva
  have hl1 := mdel_len m a
  walk_at "go"
  refine need_spec (S.gr G) (R.in_ (by (first | lia | omega))) (F.mono S.base) (ObjAt.mono Y S.base) hh.1 ?_
  walk_at "kp"
  walk_at "go"
  refine d_notin S (S.atLed (List.mem_cons_self ..)) D hds ?_; clear S; intro s S
  rw [hv, Option.isSome_some]
  walk_at "go"
  refine m_dict (S.atLed (List.mem_cons_self ..)) D PySem.F.slot_dict_pop PySem.F.type_dict_pop ?_
  walk_at "go"
  refine d_pop S (by walk_at "cf") D hv (by (first | lia | omega)) ?_; clear S; intro x od1 s hx D1 S
  obtain ⟨tx, rfl⟩ := hx
  walk_at "go"
  refine m_dict (S.atLed (List.mem_cons_self ..)) D1 PySem.F.slot_dict_pop PySem.F.type_dict_pop ?_
  walk_at "go"
  refine d_pop S (by walk_at "cf") D1 hv2 (by (first | lia | omega)) ?_; clear S; intro x od2 s hx D2 S
  walk_at "go"
  exact h od2 s D2 ⟨S.same, fun x o hx e => S.base _ _ (w3 x o hx e), S.atLed (List.mem_cons_self ..)⟩


theorem it_listN {prog : Program} {w : World} {A : Around} {E : Value → Shared → Prop} {s s₀ : Shared} {h₀ : Heap} {env : Env} {ρ : Rho} {Λ : List (Addr × Obj)} {l : Addr} {ys : Array Value} {k : Nat} {Q : Value → Shared → Prop} (S : CS true s₀ h₀ env ρ Λ s) (hh : A.handled = none) (ho : s.heap.get? l = some (lst ys k)) (hno : ¬ CS.own env Λ l)
    (h : ∀ it s', It prog w A s₀ h₀ env ρ Λ ys.size (fun i v => ys[i]? = some v) it s' → Q it s') : wpAny (model prog w) A (pyIter (.ref l)) Q E s := by
  have hL : s.heap.IsList l ys := ⟨_, ho, rfl, _, rfl⟩
  have hlt : l < s.heap.objs.size := Heap.lt_size ho
  refine wpAny_pyIter_list hL (h _ _ ⟨s.heap.objs.size, _, _, _, rfl, Walks.list hh _ l (Nat.ne_of_lt hlt) ys, ⟨⟨_, Heap.get?_push_size _ rfl, rfl, rfl⟩, hL.at fun o e => Heap.get?_push_of_some _ e⟩, ?_, ?_, ?_, S.pushK _ _⟩)
  · intro a ha
    rw [Heap.size_push]
    rcases List.mem_cons.mp ha with rfl | ha
    · exact Nat.lt_succ_self _
    · rw [List.mem_singleton.mp ha]; exact Nat.lt_succ_of_lt hlt
  · intro a ha
    rw [List.mem_singleton.mp ha]
    exact S.base.none (fresh_none (Nat.le_refl _))
  · intro a ha ho'
    rcases List.mem_cons.mp ha with rfl | ha
    · obtain ⟨o', q⟩ := S.own_at ho'
      exact absurd (Heap.lt_size q) (Nat.lt_irrefl _)
    · rw [List.mem_singleton.mp ha] at ho'
      exact hno ho'

theorem bare_spec {w : World} {A : Around} {s : Shared} {Q E : Value → Shared → Prop} {ly fl l d : Addr} {od : Obj} {m : Mp Int} {rows : List Str} {wd : Nat} {t1 t2 : Tok} (G : Gr (Fl.kH w.params) s.heap) (R : Room A 4) (F : FloorAt 196 s.heap fl l rows wd t1 t2) (Y : LayO s.heap ly fl d) (hod : s.heap.get? d = some od) (D : DG PP w RInt od m) (hds : (d == sysModules) = false)
    (h : ∀ D ys k s', s.heap.get? D = none → s'.heap.get? D = some (lst ys k) → IntsAre ys.toList (bareL m (cellsL rows wd)) → Keeps s s' → Q (.ref D) s') : wpAny (model PP w) A (call (.ref 240) [.ref ly]) Q E s := by
  refine' callP [(Str.ofString "self", some (.ref ly))] G (by walk_at "room") ?z_ho ?z_hcd ?z_hbind ?z_hd ?z_hb1 ?z_hb2 ?z_hρ ?_
  walk_at "enter"
  intro L s S
  obtain ⟨hl1, hl2⟩ := len_wd F.grid
  have hcl := cells_len rows wd
  walk_at "go"
  refine' lc [(Str.ofString "self", some (.ref ly))] (onI (fun c => (mget m c).isNone)) (FII id) S ?z_ok ?z_sel ?_ ?z_hs
  case z_ok => kernel_rfl
  case z_sel => exact Sel.cons (by walk_at "lk") Sel.nil
  case z_hs => intro _; rfl
  walk_at "go"
  refine cells_spec (S.gr G) (R.in_ (by (first | lia | omega))) (F.mono S.base) ?_
  intro lc yc kc s' hD hD' hi hk
  have hno : ¬ CS.own _ [] lc := fun q => by obtain ⟨o, e⟩ := S.own_at q; rw [hD] at e; cases e
  replace S := CS.keeps S hk; clear hk
  have hyc : yc.size = (cellsL rows wd).length := by rw [← hi.length, Array.length_toList]
  refine it_listN S R.handled hD' hno ?_
  intro it s I
  refine comp_it I (by (first | lia | omega)) ?_ ?_ ?_
  · intro C i v s E' hlt hv S
    obtain ⟨c, tc, rfl, hc⟩ := hi.at i v (by simpa using hv)
    refine tests1 ?_
    walk_at "go"
    refine d_notin S (S.atBase hod) D hds ?_; clear S; intro s S
    walk_at "go"
    refine ⟨?_, S.quiet⟩
    show _ = (mget m c).isNone
    cases mget m c <;> rfl
  · intro C i v s E' hlt hv hp S
    obtain ⟨c, tc, rfl, hc⟩ := hi.at i v (by simpa using hv)
    walk_at "go"
    exact ⟨⟨_, _, _, rfl, rfl⟩, S.quiet⟩
  · intro D' k ys vs h1 h2 h3 hD2 s' S
    walk_at "go"
    refine h D' ys k s' (I.cs.base.none hD2) (S.atLed (List.mem_cons_self ..)) ?_ S.out
    have hv := vs_list h1 h2
    subst hv
    have := pairII (filtI hi) h3
    rw [List.map_id] at this
    exact this


theorem cells_nodup (rows : List Str) (wd : Nat) : (cellsL rows wd).Nodup := by
  unfold cellsL
  refine List.Nodup.sublist List.filter_sublist ?_
  rw [List.nodup_iff_pairwise_ne, List.pairwise_map]
  exact (List.nodup_iff_pairwise_ne.mp List.nodup_range).imp fun h e => h (by (first | lia | omega))
theorem lay_cells {rows : List Str} {wd : Nat} {m : Mp Int} (M : LayM (mayB rows wd) m) : ∀ k v, mget m k = some v → k ∈ cellsL rows wd := fun k v h => by
  have := (mayB_has (M.inv k v h).2).1
  rw [← cells_mem] at this
  exact of_decide_eq_true this
theorem may_cell {rows : List Str} {wd : Nat} {a c : Int} (h : mayB rows wd a c = true) : c ∈ cellsL rows wd := by
  have := (mayB_has h).2
  rw [← cells_mem] at this
  exact of_decide_eq_true this
theorem wf_len {rows : List Str} {wd : Nat} {z : Int} {m : Mp Int} {Fm : Mp (Option Int)} (g : Gph (mayB rows wd) (shadeN wd)) (M : LayM (mayB rows wd) m) (nd : (Fm.map (·.1)).Nodup) (wf : WF (mayB rows wd) (shadeN wd) z m Fm) (rt : ∀ c, mget Fm c = some none → c ∈ cellsL rows wd) : Fm.length ≤ (cellsL rows wd).length := by
  rw [← List.length_map (f := (·.1))]
  refine nodup_len nd fun c hc => ?_
  obtain ⟨⟨k, x⟩, hp, rfl⟩ := List.mem_map.mp hc
  exact wf.cells g M (C := fun c => c ∈ cellsL rows wd) (fun a c h => may_cell h) (fun c x q e => rt c (e ▸ q)) k x (mget_of_mem nd hp)

theorem reached_spec {w : World} {A : Around} {s : Shared} {Q E : Value → Shared → Prop} {ly fl l d : Addr} {od : Obj} {m : Mp Int} {rows : List Str} {wd : Nat} {t1 t2 tz : Tok} {z : Int} (G : Gr (Fl.kH w.params) s.heap) (R : Room A 6) (F : FloorAt 196 s.heap fl l rows wd t1 t2) (Y : LayO s.heap ly fl d) (hod : s.heap.get? d = some od) (D : DG PP w RInt od m) (hds : (d == sysModules) = false) (M : LayM (mayB rows wd) m)
    (h : ∀ D' odF Fm W s', s.heap.get? D' = none → s'.heap.get? D' = some odF → (D' == sysModules) = false → DG PP w ROpt odF Fm → Bfs (mayB rows wd) (shadeN wd) z m (cellsL rows wd) Fm W W.length → Keeps s s' → Q (.ref D') s') : wpAny (model PP w) A (call (.ref 28) [.ref ly, .int z tz]) Q E s := by
  refine' callP [(Str.ofString "laying", some (.ref ly)), (Str.ofString "shade", some (.int z tz)), (Str.ofString "floor", none), (Str.ofString "found", none), (Str.ofString "waiting", none), (Str.ofString "cell", none), (Str.ofString "place", none), (Str.ofString "other", none), (Str.ofString "mate", none)] G (by walk_at "room") ?z_ho ?z_hcd ?z_hbind ?z_hd ?z_hb1 ?z_hb2 ?z_hρ ?_
  walk_at "enter"
  intro L s S
  have g := gph F.grid
  have ndC := cells_nodup rows wd
  have hC := lay_cells M
  obtain ⟨hl1, hl2⟩ := len_wd F.grid
  have hcl := cells_len rows wd
  have hbl : (bareL m (cellsL rows wd)).length ≤ (cellsL rows wd).length := List.length_filter_le ..
  walk_at "go"
  have hbig := big_heap (S.gr G)
  refine d_new S ?_; clear S; intro D' odF s Dn S hd' hdq
  have hds' := not_mods (hdq ▸ hbig)
  walk_at "go"
  refine l_new S (by simp) ?_; clear S; intro lw s S _
  walk_at "go"
  refine bare_spec (S.gr G) (R.in_ (by (first | lia | omega))) (F.mono S.base) (ObjAt.mono Y S.base) (S.atBase hod) D hds ?_
  intro lb yb kb s' hlb hlb' hib hk
  obtain ⟨h₁, k₁, S', hN⟩ := CS.gnew S hk
  replace S := S'
  clear S'
  replace G := G.mono k₁
  replace F := F.mono k₁
  replace Y := ObjAt.mono Y k₁
  have hod₁ := k₁ _ _ hod
  have hol := hN _ _ hlb hlb'
  clear hk hN hlb hlb'
  refine it_list S R.handled hol rfl ⟨_, rfl⟩ ?_
  clear S
  intro it s I
  refine loop_it (fun i ρ Λ => ∃ a odF Fm ys k W, ρ = [(Str.ofString "laying", some (.ref ly)), (Str.ofString "shade", some (.int z tz)), (Str.ofString "floor", some (.ref fl)), (Str.ofString "found", some (.ref D')), (Str.ofString "waiting", some (.ref lw)), (Str.ofString "cell", a), (Str.ofString "place", none), (Str.ofString "other", none), (Str.ofString "mate", none)] ∧ Λ = [(lw, lst ys k), (D', odF)] ∧ DG PP w ROpt odF Fm ∧ IntsAre ys.toList W ∧ W = ((bareL m (cellsL rows wd)).take i).filter (fun c => decide (shadeN wd c = z)) ∧ Fm = W.map fun c => (c, none)) I ⟨_, _, _, _, _, [], rfl, rfl, Dn _ _, .nil, rfl, rfl⟩ ?_ ?_ ?_
  · rintro i ρ' Λ' ⟨_, _, _, _, _, _, _, rfl, _⟩; rfl
  · rintro i v ρ₁ Λ₁ hi1 hv ⟨a, odF, Fm, ys, ky, W, rfl, rfl, DF, hW, eW, eF⟩
    obtain ⟨c, tc, rfl, hc⟩ := hib.at i v (by simpa using hv)
    have hib2 : i < (bareL m (cellsL rows wd)).length := by rw [← hib.length, Array.length_toList]; exact hi1
    have et : (bareL m (cellsL rows wd)).take (i + 1) = (bareL m (cellsL rows wd)).take i ++ [c] := by rw [List.take_add_one, hc]; rfl
    have hWl : W.length ≤ i := by rw [eW]; refine Nat.le_trans (List.length_filter_le ..) ?_; rw [List.length_take]; (first | lia | omega)
    have hFl : Fm.length ≤ i := by rw [eF, List.length_map]; exact hWl
    have hys : ys.size = W.length := by rw [← hW.length, Array.length_toList]
    refine ⟨_, .tail (.tail (.tail (.tail (.tail .head)))), ?_⟩
    walk_at "turn"
    replace F := F.mono k
    replace Y := ObjAt.mono Y k
    clear k
    walk_at "go"
    refine shade_spec (S.gr G) (R.in_ (by (first | lia | omega))) (F.mono S.base) ?_
    walk_at "kpt"
    walk_at "go"
    refine i_eq (fun hz => ?_) (fun hz => ?_)
    · have hnew : mget Fm c = none := by
        rw [eF, mget_roots, if_neg]
        rw [eW]
        intro q
        have q2 := (List.mem_filter.mp q).1
        have hnd : ((bareL m (cellsL rows wd)).take (i + 1)).Nodup := ((ndC.sublist List.filter_sublist)).sublist (List.take_sublist _ _)
        rw [et, List.nodup_append] at hnd
        exact hnd.2.2 c q2 c (by simp) rfl
      walk_at "go"
      refine d_set (a := (none : Option Int)) S (by walk_at "cf") DF rfl (by (first | lia | omega)) ?_; clear S; intro odF' s DF' S
      rw [mput_new _ hnew] at DF'
      walk_at "go"
      refine l_append S (by walk_at "cf") (by (first | lia | omega)) ?_; clear S; intro k' s S
      walk_at "go"
      refine hNx _ _ _ _ (Sub.refl _) S ⟨_, _, _, _, _, W ++ [c], rfl, rfl, DF', ?_, ?_, ?_⟩
      · rw [Array.toList_push]; exact hW.append (.cons _ _ .nil)
      · rw [et, List.filter_append, ← eW]; simp [hz]
      · rw [eF, List.map_append]; rfl
    · walk_at "go"
      refine hNx _ _ _ _ (Sub.refl _) S ⟨_, _, _, _, _, W, rfl, rfl, DF, hW, ?_, eF⟩
      rw [et, List.filter_append, ← eW]; simp [hz]
  clear I
  rintro ρ' Λ' s ⟨a, odF, Fm, ys, ky, W, rfl, rfl, DF, hW, eW, eF⟩ S
  have hyb : yb.size = (bareL m (cellsL rows wd)).length := by rw [← hib.length, Array.length_toList]
  rw [hyb, List.take_length] at eW
  have B0 : Bfs (mayB rows wd) (shadeN wd) z m (cellsL rows wd) Fm W 0 := by rw [eF, eW]; exact Bfs.start ndC
  clear eW eF
  walk_at "go"
  refine x_while (n := (cellsL rows wd).length) (fun k _ ρ Λ => ∃ (a o mt : Option Value) (tp : Tok) (p : Nat) (odF : Obj) (Fm : Mp (Option Int)) (ys : Array Value) (ky : Nat) (W : List Int), ρ = [(Str.ofString "laying", some (.ref ly)), (Str.ofString "shade", some (.int z tz)), (Str.ofString "floor", some (.ref fl)), (Str.ofString "found", some (.ref D')), (Str.ofString "waiting", some (.ref lw)), (Str.ofString "cell", a), (Str.ofString "place", some (.int p tp)), (Str.ofString "other", o), (Str.ofString "mate", mt)] ∧ Λ = [(lw, lst ys ky), (D', odF)] ∧ DG PP w ROpt odF Fm ∧ IntsAre ys.toList W ∧ Bfs (mayB rows wd) (shadeN wd) z m (cellsL rows wd) Fm W p ∧ p ≤ W.length ∧ k = (cellsL rows wd).length - p) S ⟨_, _, _, _, 0, _, _, _, _, _, rfl, rfl, DF, hW, B0, Nat.zero_le _, rfl⟩ ?_
  clear S DF hW B0
  rintro k h₂ ρ₂ Λ₂ s ⟨a, o, mt, tp, p, odF, Fm, ys, ky, W, rfl, rfl, DF, hW, B1, hp, rfl⟩ k₂ S
  replace G := G.mono k₂
  replace F := F.mono k₂
  replace Y := ObjAt.mono Y k₂
  have hod₂ := k₂ _ _ hod₁
  have hWC := nodup_len B1.wn B1.sub
  have hys : ys.size = W.length := by rw [← hW.length, Array.length_toList]
  walk_at "go"
  refine l_len S (IntL.of (S.atLed (List.mem_cons_self ..)) hW) (by (first | lia | omega)) ?_; clear S; intro t s S
  walk_at "go"
  refine i_dec (fun hlt => ?_) (fun hlt => ?_)
  · walk_at "go"
    have hpW : p < W.length := by (first | lia | omega)
    refine l_at (IntL.of (S.atLed (List.mem_cons_self ..)) hW) (by (first | lia | omega)) (by (first | lia | omega)) (by (first | lia | omega)) (by rfl) ?_
    intro ta
    have eA : W[p]? = some (W.getD p 0) := by simp [List.getD, hpW]
    have hAC := B1.sub _ (List.mem_of_getElem? eA)
    rw [Int.toNat_natCast]
    generalize W.getD p 0 = ca at eA hAC ⊢
    have hAB : hasB rows wd ca = true := by rw [← cells_mem]; exact decide_eq_true hAC
    have hbs := beside_len rows wd ca
    walk_at "go"
    refine beside_spec (S.gr G) (R.in_ (by (first | lia | omega))) (F.mono S.base) hAB ?_
    intro ls yb2 kb2 s' hls hls' his hk
    obtain ⟨h₃, k₃, S', hN⟩ := CS.gnew S hk
    replace S := S'
    clear S'
    replace G := G.mono k₃
    replace F := F.mono k₃
    replace Y := ObjAt.mono Y k₃
    have hod₃ := k₃ _ _ hod₂
    have hol3 := hN _ _ hls hls'
    clear hk hN hls hls'
    refine it_list S R.handled hol3 rfl ⟨_, rfl⟩ ?_
    clear S
    intro it s I
    refine loop_it (fun j ρ Λ => ∃ o mt tp odF Fm ys k W, ρ = [(Str.ofString "laying", some (.ref ly)), (Str.ofString "shade", some (.int z tz)), (Str.ofString "floor", some (.ref fl)), (Str.ofString "found", some (.ref D')), (Str.ofString "waiting", some (.ref lw)), (Str.ofString "cell", some (.int ca ta)), (Str.ofString "place", some (.int ((p : Int) + 1) tp)), (Str.ofString "other", o), (Str.ofString "mate", mt)] ∧ Λ = [(lw, lst ys k), (D', odF)] ∧ DG PP w ROpt odF Fm ∧ IntsAre ys.toList W ∧ Mid (mayB rows wd) (shadeN wd) z m (cellsL rows wd) ca (besideL rows wd ca) p j Fm W) I ⟨_, _, _, _, _, _, _, _, rfl, rfl, DF, hW, Mid.start B1 eA⟩ ?_ ?_ ?_
    · rintro i ρ' Λ' ⟨_, _, _, _, _, _, _, _, _, rfl, _⟩; rfl
    · rintro j v ρ₁ Λ₁ hj1 hv ⟨o, mt, tp, odF, Fm, ys, ky, W, rfl, rfl, DF, hW, X⟩
      obtain ⟨b, tb, rfl, hb⟩ := his.at j v (by simpa using hv)
      have hmay := mem_beside.mp (List.mem_of_getElem? hb)
      have hWC := nodup_len X.wn X.sub
      have hFC := wf_len g M DF.nodup X.wf X.rt
      have hys : ys.size = W.length := by rw [← hW.length, Array.length_toList]
      refine ⟨_, .tail (.tail (.tail (.tail (.tail (.tail (.tail .head)))))), ?_⟩
      walk_at "turn"
      replace F := F.mono k
      replace Y := ObjAt.mono Y k
      have hod₄ := k _ _ hod₃
      clear k
      walk_at "go"
      refine d_notin S (S.atLed (List.mem_cons_of_mem _ (List.mem_cons_self ..))) DF hds' ?_; clear S; intro s S
      walk_at "go"
      refine i_bool (fun q => ?_) (fun q => ?_)
      · walk_at "go"
        exact hNx _ _ _ _ (Sub.refl _) S ⟨_, _, _, _, _, _, _, _, rfl, rfl, DF, hW, X.skip hb q⟩
      · have hn : mget Fm b = none := by cases e : mget Fm b with | none => rfl | some y => rw [e] at q; cases q
        walk_at "go"
        refine d_set (a := some ca) S (by walk_at "cf") DF ⟨_, rfl⟩ (by (first | lia | omega)) ?_; clear S; intro odF1 s DF1 S
        rw [mput_new _ hn] at DF1
        walk_at "go"
        refine d_in S (S.atBase hod₄) D hds ?_; clear S; intro s S
        cases hv : mget m b with
        | none =>
          rw [Option.isSome_none]
          walk_at "go"
          exact hNx _ _ _ _ (Sub.refl _) S ⟨_, _, _, _, _, _, _, _, rfl, rfl, DF1, hW, X.leaf g hb hmay hn hv⟩
        | some u =>
          rw [Option.isSome_some]
          obtain ⟨hun, X2⟩ := X.pair g M hC hb hmay hn hv
          walk_at "go"
          refine d_at S (S.atBase hod₄) D hv (by rfl) ?_; clear S; intro vx s hvx S
          obtain ⟨tu, rfl⟩ := hvx
          walk_at "go"
          refine d_set (a := some b) S (by walk_at "cf") DF1 ⟨_, rfl⟩ (by rw [List.length_append]; simp; (first | lia | omega)) ?_; clear S; intro odF2 s DF2 S
          rw [mput_new _ hun, List.append_assoc] at DF2
          walk_at "go"
          refine l_append S (by walk_at "cf") (by (first | lia | omega)) ?_; clear S; intro k' s S
          walk_at "go"
          refine hNx _ _ _ _ (Sub.refl _) S ⟨_, _, _, _, _, _, _, W ++ [u], rfl, rfl, DF2, ?_, X2⟩
          rw [Array.toList_push]; exact hW.append (.cons _ _ .nil)
    clear I
    rintro ρ' Λ' s ⟨o, mt, tp, odF, Fm, ys, ky, W, rfl, rfl, DF, hW, X⟩ S
    have hyb2 : yb2.size = (besideL rows wd ca).length := by rw [← his.length, Array.length_toList]
    rw [hyb2] at X
    have hpW2 : p < W.length := by obtain ⟨q, _⟩ := List.getElem?_eq_some_iff.mp X.at_; exact q
    walk_at "go"
    refine loop_next ⟨(cellsL rows wd).length - (p + 1), _, _, _, by (first | lia | omega), k₂.trans k₃, S, _, _, _, _, p + 1, _, _, _, _, W, rfl, rfl, DF, hW, X.fin (fun b hb => mem_beside.mpr hb), by (first | lia | omega), rfl⟩
  · have hpe : p = W.length := by (first | lia | omega)
    subst hpe
    walk_at "go"
    exact h D' odF Fm W s ((k₁.trans k₂).none ((S.led (D', odF) (List.mem_cons_of_mem _ (List.mem_cons_self ..))).2.2.2 rfl)) (S.atLed (List.mem_cons_of_mem _ (List.mem_cons_self ..))) hds' DF B1 (S.outs (k₁.trans k₂))


theorem Pth.steps {may : Int → Int → Bool} {sh : Int → Int} {z : Int} {m : Mp Int} {F : Mp (Option Int)} {c : Int} {P : List Int} (h : Pth may sh z m F c P) : P[0]? = some c ∧ ∀ (i : Nat) x, P[i]? = some x → mget F x = some P[i + 1]? := by
  induction h with
  | root e _ _ =>
    refine ⟨rfl, fun i x hx => ?_⟩
    cases i with
    | zero => simp at hx; subst hx; simpa using e
    | succ i => simp at hx
  | @leaf a b P e _ _ _ _ ih =>
    refine ⟨rfl, fun i x hx => ?_⟩
    cases i with
    | zero => simp at hx; subst hx; rw [e]; simp [ih.1]
    | succ i => simpa using ih.2 i x (by simpa using hx)
  | @mate b v P e _ _ _ _ ih =>
    refine ⟨rfl, fun i x hx => ?_⟩
    cases i with
    | zero => simp at hx; subst hx; rw [e]; simp [ih.1]
    | succ i => simpa using ih.2 i x (by simpa using hx)
theorem take_lastI {P : List Int} {i : Nat} {x : Int} (h : P[i]? = some x) : (P.take (i + 1)).getD ((P.take (i + 1)).length - 1) 0 = x ∧ (P.take (i + 1)).length = i + 1 := by
  obtain ⟨hi, e⟩ := List.getElem?_eq_some_iff.mp h
  have hl : (P.take (i + 1)).length = i + 1 := by rw [List.length_take]; (first | lia | omega)
  refine ⟨?_, hl⟩
  rw [hl, List.getD_eq_getElem?_getD, Nat.add_sub_cancel, List.getElem?_take, if_pos (by (first | lia | omega)), h]
  rfl

theorem way_spec {w : World} {A : Around} {s : Shared} {Q E : Value → Shared → Prop} {dF : Addr} {odF : Obj} {Fm : Mp (Option Int)} {P : List Int} {c : Int} {tc : Tok} (G : Gr (Fl.kH w.params) s.heap) (R : Room A 1) (hod : s.heap.get? dF = some odF) (DF : DG PP w ROpt odF Fm) (hP0 : P[0]? = some c) (hP : ∀ (i : Nat) x, P[i]? = some x → mget Fm x = some P[i + 1]?) (hPl : P.length ≤ 1000)
    (h : ∀ D ys k s', s.heap.get? D = none → s'.heap.get? D = some (lst ys k) → IntsAre ys.toList P.reverse → Keeps s s' → Q (.ref D) s') : wpAny (model PP w) A (call (.ref 35) [.ref dF, .int c tc]) Q E s := by
  refine' callP [(Str.ofString "found", some (.ref dF)), (Str.ofString "cell", some (.int c tc)), (Str.ofString "way", none)] G (by walk_at "room") ?z_ho ?z_hcd ?z_hbind ?z_hd ?z_hb1 ?z_hb2 ?z_hρ ?_
  walk_at "enter"
  intro L s S
  walk_at "go"
  refine l_new S (by simp) ?_; clear S; intro lw s S _
  walk_at "go"
  have hlen0 : 0 < P.length := by
    obtain ⟨q, _⟩ := List.getElem?_eq_some_iff.mp hP0; exact q
  have ht1 : P.take (0 + 1) = [c] := by rw [List.take_add_one, hP0]; rfl
  refine x_while (n := P.length) (fun k _ ρ Λ => ∃ (i : Nat) (ys : Array Value) (ky : Nat), ρ = [(Str.ofString "found", some (.ref dF)), (Str.ofString "cell", some (.int c tc)), (Str.ofString "way", some (.ref lw))] ∧ Λ = [(lw, lst ys ky)] ∧ IntsAre ys.toList (P.take (i + 1)) ∧ i < P.length ∧ k = P.length - i) S ⟨0, _, _, rfl, rfl, by rw [ht1]; exact .cons _ _ .nil, hlen0, rfl⟩ ?_
  clear S
  rintro k h₁ ρ₁ Λ₁ s ⟨i, ys, ky, rfl, rfl, hys, hi, rfl⟩ k₁ S
  replace G := G.mono k₁
  have hod₁ := k₁ _ _ hod
  obtain ⟨x, hx⟩ : ∃ x, P[i]? = some x := ⟨P[i], by simp [hi]⟩
  obtain ⟨hl1, hl2⟩ := take_lastI hx
  have hk := hP i x hx
  have hysz : ys.size = i + 1 := by rw [← hl2, ← hys.length, Array.length_toList]
  walk_at "go"
  refine l_last (IntL.of (S.atLed (List.mem_cons_self ..)) hys) (by (first | lia | omega)) (by (first | lia | omega)) (by rfl) ?_
  intro t
  rw [hl1]
  walk_at "go"
  refine d_at S (S.atBase hod₁) DF hk (by rfl) ?_; clear S; intro vx s hvx S
  cases hy : P[i + 1]? with
  | some y =>
    rw [hy] at hvx hk
    obtain ⟨ty, rfl⟩ := hvx
    walk_at "go"
    refine w_isnot (by intro q; cases q) ?_
    walk_at "go"
    refine l_last (IntL.of (S.atLed (List.mem_cons_self ..)) hys) (by (first | lia | omega)) (by (first | lia | omega)) (by rfl) ?_
    intro t
    rw [hl1]
    walk_at "go"
    refine d_at S (S.atBase hod₁) DF hk (by rfl) ?_; clear S; intro vx s hvx S
    obtain ⟨ty2, rfl⟩ := hvx
    walk_at "go"
    refine l_append S (by walk_at "cf") (by (first | lia | omega)) ?_; clear S; intro k' s S
    walk_at "go"
    have hi1 : i + 1 < P.length := by obtain ⟨q, _⟩ := List.getElem?_eq_some_iff.mp hy; exact q
    refine loop_next ⟨P.length - (i + 1), _, _, _, by (first | lia | omega), k₁, S, i + 1, _, _, rfl, rfl, ?_, hi1, rfl⟩
    rw [Array.toList_push, List.take_add_one, hy]
    exact hys.append (.cons _ _ .nil)
  | none =>
    rw [hy] at hvx
    have hvx' : vx = .none := hvx
    subst hvx'
    walk_at "go"
    refine w_isnone ?_
    walk_at "go"
    have hie : i + 1 = P.length := by
      have := List.getElem?_eq_none_iff.mp hy
      (first | lia | omega)
    rw [hie, List.take_length] at hys
    refine r_rev (vs := ys.toList) S ⟨_, S.atLed (List.mem_cons_self ..), rfl, ky, by simp⟩ ?_; clear S
    intro r s hit hL hne hno hr0 S
    walk_at "go"
    refine r_list S R.handled hit hL hys hne hno hr0 (by rw [hys.length]; (first | lia | omega)) ?_; clear S
    intro D yr kr s hyr S _
    walk_at "go"
    exact h D yr kr s (k₁.none ((S.led (D, _) (List.mem_cons_self ..)).2.2.2 rfl)) (S.atLed (List.mem_cons_self ..)) hyr (S.outs k₁)


theorem lay_len {rows : List Str} {wd : Nat} {m : Mp Int} (M : LayM (mayB rows wd) m) : m.length ≤ (cellsL rows wd).length := by
  rw [← List.length_map (f := (·.1))]
  refine nodup_len M.nd fun c hc => ?_
  obtain ⟨⟨k, x⟩, hp, rfl⟩ := List.mem_map.mp hc
  exact lay_cells M k x (mget_of_mem M.nd hp)

theorem gf_over (w : World) : GF (Fl.kH w.params) (Str.ofString "_law_over") 309 := ⟨by kernel_rfl, by kernel_rfl, by kernel_rfl⟩
theorem gf_made (w : World) : GF (Fl.kH w.params) (Str.ofString "_law_made") 316 := ⟨by kernel_rfl, by kernel_rfl, by kernel_rfl⟩
theorem gf_lreached (w : World) : GF (Fl.kH w.params) (Str.ofString "_law_reached") 323 := ⟨by kernel_rfl, by kernel_rfl, by kernel_rfl⟩
theorem gf_less (w : World) : GF (Fl.kH w.params) (Str.ofString "_law_less") 344 := ⟨by kernel_rfl, by kernel_rfl, by kernel_rfl⟩
theorem gf_link (w : World) : GF (Fl.kH w.params) (Str.ofString "_law_link") 330 := ⟨by kernel_rfl, by kernel_rfl, by kernel_rfl⟩
theorem gf_lway (w : World) : GF (Fl.kH w.params) (Str.ofString "_law_way") 337 := ⟨by kernel_rfl, by kernel_rfl, by kernel_rfl⟩
theorem gb_set (w : World) : GB (Fl.kH w.params) (Str.ofString "set") (.type "set") := ⟨by kernel_rfl, by kernel_rfl, by decide +kernel, by kernel_rfl⟩
theorem gb_dict (w : World) : GB (Fl.kH w.params) (Str.ofString "dict") (.type "dict") := ⟨by kernel_rfl, by kernel_rfl, by decide +kernel, by kernel_rfl⟩
set_option hygiene false in
local macro_rules | `(tactic| walk_at "gf") => `(tactic| with_reducible first | exact gf_over _ | exact gf_made _ | exact gf_lreached _ | exact gf_paints _ | exact gf_less _ | exact gf_painted _ | exact gf_sparing _ | exact gf_link _ | exact gf_lway _ | exact gf_lies _ | exact gf_gone _ | exact gf_covered _ | exact gf_put_again _ | exact gf_bare_taken _ | exact gf_told_well _ | exact gf_again _)
set_option hygiene false in
local macro_rules | `(tactic| walk_at "gb") => `(tactic| with_reducible first | exact gb_set _ | exact gb_dict _ | exact gb_tuple _)


theorem over_spec {w : World} {A : Around} {s : Shared} {Q E : Value → Shared → Prop} {lr l : Addr} {rows : List Str} {wd : Nat} {ns : List Int} {many : Int} {tm : Tok} (G : Gr (Fl.kH w.params) s.heap) (R : Room A 4) (hr : StrL s.heap lr rows) (g : Grid rows wd) (hl : IntL s.heap l ns) (hn : ns.length ≤ 63) (hm0 : 0 ≤ many) (hm1 : many ≤ 100)
    (h : ∀ d od m s', s.heap.get? d = none → s'.heap.get? d = some od → (d == sysModules) = false → DG PP w RInt od m → LayM (mayB rows wd) m → Keeps s s' → Q (.ref d) s') : wpAny (model PP w) A (call (.ref 309) [.ref lr, .ref l, .int many tm]) Q E s := by
  refine' callP [(Str.ofString "_law_rows_here", some (.ref lr)), (Str.ofString "_law_script", some (.ref l)), (Str.ofString "_law_many", some (.int many tm)), (Str.ofString "_law_over_here", none), (Str.ofString "_law_cells_here", none), (Str.ofString "_law_k", none), (Str.ofString "_law_cell", none), (Str.ofString "_law_other", none), (Str.ofString "_law_near", none)] G (by walk_at "room") ?z_ho ?z_hcd ?z_hbind ?z_hd ?z_hb1 ?z_hb2 ?z_hρ ?_
  walk_at "enter"
  intro L s S
  have gg := gph g
  have hbig := big_heap (S.gr G)
  have hcl := cells_len rows wd
  have hlw := (len_wd g).1
  walk_at "go"
  refine d_new S ?_; clear S; intro d od s Dn S hd hdq
  have hds := not_mods (hdq ▸ hbig)
  have nd := (S.led (d, od) (List.mem_cons_self ..)).2.2.2 rfl
  walk_at "go"
  refine lcells_spec (S.gr G) (R.in_ (by (first | lia | omega))) (hr.mono S.base) g ?_
  intro lc yc kc s' hD hD' hi hk
  obtain ⟨h₁, k₁, S', hN⟩ := CS.gnew S hk
  replace S := S'
  clear S'
  replace G := G.mono k₁
  replace hr := hr.mono k₁
  replace hl := hl.mono k₁
  have hC : IntL h₁ lc (cellsL rows wd) := IntL.of (hN _ _ hD hD') hi
  clear hk hN hD hD'
  walk_at "go"
  refine r_range S ?_; clear S; intro r t1 t2 t3 s hr' S
  refine it_range S R.handled hr' (by (first | lia | omega)) (by (first | lia | omega)) ?_
  clear S
  intro it s I
  refine loop_it (fun i ρ Λ => ∃ a b c e od m, ρ = [(Str.ofString "_law_rows_here", some (.ref lr)), (Str.ofString "_law_script", some (.ref l)), (Str.ofString "_law_many", some (.int many tm)), (Str.ofString "_law_over_here", some (.ref d)), (Str.ofString "_law_cells_here", some (.ref lc)), (Str.ofString "_law_k", a), (Str.ofString "_law_cell", b), (Str.ofString "_law_other", c), (Str.ofString "_law_near", e)] ∧ Λ = [(d, od)] ∧ DG PP w RInt od m ∧ LayM (mayB rows wd) m) I ⟨_, _, _, _, _, _, rfl, rfl, Dn _ _, LayM.nil _⟩ ?_ ?_ ?_
  · rintro i ρ' Λ' ⟨_, _, _, _, _, _, _, rfl, _⟩; rfl
  · rintro i v ρ₁ Λ₁ hi1 ⟨tk, rfl⟩ ⟨a, b, c, e, od, m, rfl, rfl, D, M⟩
    have hml := lay_len M
    refine ⟨_, .tail (.tail (.tail (.tail (.tail .head)))), ?_⟩
    walk_at "turn"
    replace hr := hr.mono k
    replace hl := hl.mono k
    replace hC := hC.mono k
    clear k
    walk_at "go"
    refine l_len S (hC.mono S.base) (by (first | lia | omega)) ?_; clear S; intro t s S
    walk_at "go"
    refine i_dec (fun hp => ?_) (fun hp => ?_)
    · walk_at "go"
      refine number_spec (S.gr G) (R.in_ (by (first | lia | omega))) (hl.mono S.base) hn (by (first | lia | omega)) ?_
      intro n t s' hn0 hk; replace S := CS.keeps S hk; clear hk
      walk_at "go"
      refine l_len S (hC.mono S.base) (by (first | lia | omega)) ?_; clear S; intro t s S
      walk_at "go"
      have e1 := Int.emod_nonneg (n / 5) (Int.ne_of_gt hp)
      have e2 := Int.emod_lt_of_pos (n / 5) hp
      refine l_at (hC.mono S.base) e1 e2 (by (first | lia | omega)) (by rfl) ?_
      intro t
      have hcm : (cellsL rows wd).getD (n / 5 % (cellsL rows wd).length).toNat 0 ∈ cellsL rows wd := getD_mem (by (first | lia | omega))
      generalize (cellsL rows wd).getD (n / 5 % (cellsL rows wd).length).toNat 0 = cell at hcm S ⊢
      have hcb : hasB rows wd cell = true := by rw [← cells_mem]; exact decide_eq_true hcm
      walk_at "go"
      refine' x_lc [(Str.ofString "_law_over_here", some (.ref d))] (onI (fun c => (mget m c).isNone)) (FII id) ?z_sw S ?z_ok ?z_hy ?z_ek ?z_sel ?_ ?z_hs
      case z_sw => rfl
      case z_ok => kernel_rfl
      case z_hy => kernel_rfl
      case z_ek => rfl
      case z_sel => exact Sel.cons (by walk_at "lk") Sel.nil
      case z_hs => intro _; rfl
      walk_at "go"
      refine lbeside_spec (S.gr G) (R.in_ (by (first | lia | omega))) (hr.mono S.base) g hcb ?_
      intro lb yb kb s' hD hD' hi hk
      have hno : ¬ CS.own _ [(d, od)] lb := fun q => by obtain ⟨o, e⟩ := S.own_at q; rw [hD] at e; cases e
      replace S := CS.keeps S hk; clear hk
      have hyb : yb.size = (besideL rows wd cell).length := by rw [← hi.length, Array.length_toList]
      have hb4 := beside_len rows wd cell
      refine it_listN S R.handled hD' hno ?_
      intro it s I
      refine comp_it I (by (first | lia | omega)) ?_ ?_ ?_
      · intro C i v s E' hlt hv S
        obtain ⟨c, tc, rfl, hc⟩ := hi.at i v (by simpa using hv)
        refine tests1 ?_
        walk_at "go"
        refine d_notin S (S.atLed (List.mem_cons_self ..)) D hds ?_; clear S; intro s S
        walk_at "go"
        refine ⟨?_, S.quiet⟩
        show _ = (mget m c).isNone
        cases mget m c <;> rfl
      · intro C i v s E' hlt hv hp S
        obtain ⟨c, tc, rfl, hc⟩ := hi.at i v (by simpa using hv)
        walk_at "go"
        exact ⟨⟨_, _, _, rfl, rfl⟩, S.quiet⟩
      · intro ln kn yn vs p1 p2 p3 hDn
        refine ⟨_, by walk_at "pt", fun s S => ?_⟩
        have hv := vs_list p1 p2
        subst hv
        have hyn := pairII (filtI hi) p3
        rw [List.map_id] at hyn
        have hnl : ((besideL rows wd cell).filter fun c => (mget m c).isNone).length ≤ 4 := Nat.le_trans (List.length_filter_le ..) hb4
        have hNl : IntL s.heap ln _ := IntL.of (S.atLed (List.mem_cons_self ..)) hyn
        walk_at "go"
        refine d_notin S (S.atLed (by walk_at "mm")) D hds ?_; clear S hNl; intro s S
        walk_at "go"
        refine i_bool (fun q1 => ?_) (fun q1 => ?_)
        · walk_at "go"
          exact hNx _ _ _ _ (Sub.refl _) (S.tl rfl) ⟨_, _, _, _, _, _, rfl, rfl, D, M⟩
        · walk_at "go"
          refine l_len S (IntL.of (S.atLed (List.mem_cons_self ..)) hyn) (by (first | lia | omega)) ?_; clear S; intro t s S
          walk_at "go"
          refine i_dec (fun q2 => ?_) (fun q2 => ?_)
          · walk_at "go"
            refine number_spec (S.gr G) (R.in_ (by (first | lia | omega))) (hl.mono S.base) hn (by (first | lia | omega)) ?_
            intro n t s' hn0 hk; replace S := CS.keeps S hk; clear hk
            walk_at "go"
            refine l_len S (IntL.of (S.atLed (List.mem_cons_self ..)) hyn) (by (first | lia | omega)) ?_; clear S; intro t s S
            walk_at "go"
            have f1 := Int.emod_nonneg (n / 3) (Int.ne_of_gt q2)
            have f2 := Int.emod_lt_of_pos (n / 3) q2
            refine l_at (IntL.of (S.atLed (List.mem_cons_self ..)) hyn) f1 f2 (by (first | lia | omega)) (by rfl) ?_
            intro t
            have hom := getD_mem (d := 0) (show (n / 3 % (((besideL rows wd cell).filter fun c => (mget m c).isNone).length : Int)).toNat < ((besideL rows wd cell).filter fun c => (mget m c).isNone).length by (first | lia | omega))
            generalize ((besideL rows wd cell).filter fun c => (mget m c).isNone).getD (n / 3 % (((besideL rows wd cell).filter fun c => (mget m c).isNone).length : Int)).toNat 0 = other at hom S ⊢
            obtain ⟨o1, o2⟩ := List.mem_filter.mp hom
            have hmay := mem_beside.mp o1
            have ho : mget m other = none := by simpa using o2
            have hc : mget m cell = none := by
              cases e : mget m cell with
              | none => rfl
              | some v => rw [e] at q1; cases q1
            have z1 := mput_len m cell other
            walk_at "go"
            refine d_set (a := other) S (by walk_at "cf") D ⟨_, rfl⟩ (by (first | lia | omega)) ?_; clear S; intro od1 s D1 S
            walk_at "go"
            refine d_set (a := cell) S (by walk_at "cf") D1 ⟨_, rfl⟩ (by (first | lia | omega)) ?_; clear S; intro od2 s D2 S
            walk_at "go"
            exact hNx _ _ _ _ (Sub.refl _) (S.tl rfl) ⟨_, _, _, _, _, _, rfl, rfl, D2, M.put gg hmay hc ho⟩
          · walk_at "go"
            exact hNx _ _ _ _ (Sub.refl _) (S.tl rfl) ⟨_, _, _, _, _, _, rfl, rfl, D, M⟩
    · walk_at "go"
      exact hNx _ _ _ _ (Sub.refl _) S ⟨_, _, _, _, _, _, rfl, rfl, D, M⟩
  clear I
  rintro ρ' Λ' s ⟨a, b, c, e, od, m, rfl, rfl, D, M⟩ S
  walk_at "go"
  exact h d od m s (k₁.none ((S.led (d, od) (List.mem_cons_self ..)).2.2.2 rfl)) (S.atLed (List.mem_cons_self ..)) hds D M (S.outs k₁)


theorem made_spec {w : World} {A : Around} {s : Shared} {Q E : Value → Shared → Prop} {fl l d : Addr} {od : Obj} {m : Mp Int} {rows : List Str} {wd : Nat} {t1 t2 : Tok} (G : Gr (Fl.kH w.params) s.heap) (R : Room A 6) (F : FloorAt 196 s.heap fl l rows wd t1 t2) (hod : s.heap.get? d = some od) (D : DG PP w RInt od m) (hds : (d == sysModules) = false) (M : LayM (mayB rows wd) m)
    (h : ∀ ly' dx o2 d' od' m' s', LayP s'.heap ly' dx o2 fl d' → s.heap.get? ly' = none → s.heap.get? dx = none → ly' ≠ d' → dx ≠ d' → DG PP w RInt od' m' → LayM (mayB rows wd) m' → (∀ x, mget m' x = mget m x) → s.heap.get? d' = none → s'.heap.get? d' = some od' → (d' == sysModules) = false → Keeps s s' → Q (.ref ly') s') : wpAny (model PP w) A (call (.ref 316) [.ref fl, .ref d]) Q E s := by
  refine' callP [(Str.ofString "_law_floor", some (.ref fl)), (Str.ofString "_law_over_here", some (.ref d)), (Str.ofString "_law_laying", none), (Str.ofString "_law_cell", none)] G (by walk_at "room") ?z_ho ?z_hcd ?z_hbind ?z_hd ?z_hb1 ?z_hb2 ?z_hρ ?_
  walk_at "enter"
  intro L s S
  have g := gph F.grid
  have hml := lay_len M
  have hcl := cells_len rows wd
  have hlw := (len_wd F.grid).1
  walk_at "go"
  refine laying_spec (S.gr G) (R.in_ (by (first | lia | omega))) ?_
  intro ly' dx o2 d' od0 s' P n1 n2 ne1 ne2 Dn hd' hd'' hds' hk
  obtain ⟨h₁, k₁, S', hall⟩ := S.adoptW hk hd' hd''
  have n1' := S.base.none n1
  have n2' := S.base.none n2
  have n3' := S.base.none hd'
  replace S := S'
  clear S'
  have P₁ : LayP h₁ ly' dx o2 fl d' := ⟨hall _ _ n1 ne1 P.a1, hall _ _ n2 ne2 P.a2, P.lk⟩
  clear P hall hk
  replace G := G.mono k₁
  replace F := F.mono k₁
  have hod₁ := k₁ _ _ hod
  have Y := P₁.obj
  walk_at "go"
  refine d_sorted S R.handled (S.atBase hod₁) D hds (by (first | lia | omega)) ?_; clear S; intro ls out e ks s hout hperm _ S _
  obtain ⟨h₂, k₂, hls, S'⟩ := S.freeze
  replace S := S'
  clear S'
  replace G := G.mono k₂
  replace F := F.mono k₂
  replace Y := ObjAt.mono Y k₂
  replace P₁ := P₁.mono k₂
  have hod₂ := k₂ _ _ hod₁
  have B := k₁.trans k₂
  have hnd : ks.Nodup := hperm.nodup_iff.mpr M.nd
  have hkl : ks.length = m.length := by rw [hperm.length_eq, List.length_map]
  have hol : out.size = ks.length := by rw [← hout.length, Array.length_toList]
  refine it_list S R.handled hls rfl ⟨_, rfl⟩ ?_
  clear S
  intro it s I
  refine loop_it (fun i ρ Λ => ∃ a od1 m1, ρ = [(Str.ofString "_law_floor", some (.ref fl)), (Str.ofString "_law_over_here", some (.ref d)), (Str.ofString "_law_laying", some (.ref ly')), (Str.ofString "_law_cell", a)] ∧ Λ = [(d', od1)] ∧ DG PP w RInt od1 m1 ∧ Mad (mayB rows wd) m ks i m1) I ⟨_, _, _, rfl, rfl, Dn _ _, Mad.start⟩ ?_ ?_ ?_
  · rintro i ρ' Λ' ⟨_, _, _, _, rfl, _⟩; rfl
  · rintro i v ρ₁ Λ₁ hi1 hv ⟨a, od1, m1, rfl, rfl, D1, M1⟩
    obtain ⟨c, tc, rfl, hc⟩ := hout.at i v (by simpa using hv)
    obtain ⟨x, hx⟩ : ∃ x, mget m c = some x := by
      have := hperm.mem_iff.mp (List.mem_of_getElem? hc)
      cases e : mget m c with
      | some v => exact ⟨v, rfl⟩
      | none => exact absurd this (mget_none_iff.mp e)
    have hl1 := lay_len M1.lay
    refine ⟨_, .tail (.tail (.tail .head)), ?_⟩
    walk_at "turn"
    replace F := F.mono k
    replace Y := ObjAt.mono Y k
    have hod₃ := k _ _ hod₂
    clear k
    walk_at "go"
    refine d_at S (S.atBase hod₃) D hx (by rfl) ?_; clear S; intro vx s hvx S
    obtain ⟨tx, rfl⟩ := hvx
    walk_at "go"
    refine i_dec (fun hlt => ?_) (fun hlt => ?_)
    · obtain ⟨q1, q2, q3, M2⟩ := M1.put g M hnd hc hx hlt
      walk_at "go"
      refine d_at S (S.atBase hod₃) D hx (by rfl) ?_; clear S; intro vx s hvx S
      obtain ⟨tx2, rfl⟩ := hvx
      walk_at "go"
      refine put_spec S.base ((S.led (d', od1) (List.mem_cons_self ..)).2.2.2 rfl) G (R.in_ (by (first | lia | omega))) F Y (S.atLed (List.mem_cons_self ..)) D1 hds' q1 q2 q3 (by (first | lia | omega)) ?_
      intro od2 s' D2 up
      replace S := S.upd (by walk_at "cf") up
      walk_at "go"
      exact hNx _ _ _ _ (Sub.refl _) S ⟨_, _, _, rfl, rfl, D2, M2⟩
    · walk_at "go"
      exact hNx _ _ _ _ (Sub.refl _) S ⟨_, _, _, rfl, rfl, D1, M1.skip hc hx hlt⟩
  clear I
  rintro ρ' Λ' s ⟨a, od1, m1, rfl, rfl, D1, M1⟩ S
  rw [hol] at M1
  walk_at "go"
  exact h ly' dx o2 d' od1 m1 s (P₁.mono S.base) n1' n2' ne1 ne2 D1 M1.lay (M1.all g M hperm) n3' (S.atLed (List.mem_cons_self ..)) hds' (S.outs B)


theorem lreached_spec {w : World} {A : Around} {s : Shared} {Q E : Value → Shared → Prop} {lr d : Addr} {od : Obj} {m : Mp Int} {rows : List Str} {wd : Nat} {tz : Tok} {z : Int} (G : Gr (Fl.kH w.params) s.heap) (R : Room A 4) (hr : StrL s.heap lr rows) (g : Grid rows wd) (hod : s.heap.get? d = some od) (D : DG PP w RInt od m) (hds : (d == sysModules) = false) (M : LayM (mayB rows wd) m)
    (h : ∀ D' odF Fm s', s.heap.get? D' = none → s'.heap.get? D' = some odF → (D' == sysModules) = false → DG PP w RTrue odF Fm → (∀ c, (mget Fm c).isSome = true ↔ Least (mayB rows wd) (shadeN wd) z m (cellsL rows wd) c) → Fm.length ≤ 1000 → Keeps s s' → Q (.ref D') s') : wpAny (model PP w) A (call (.ref 323) [.ref lr, .ref d, .int z tz]) Q E s := by
  refine' callP [(Str.ofString "_law_rows_here", some (.ref lr)), (Str.ofString "_law_over_here", some (.ref d)), (Str.ofString "_law_shade", some (.int z tz)), (Str.ofString "_law_wide", none), (Str.ofString "_law_found", none), (Str.ofString "_law_waiting", none), (Str.ofString "_law_cell", none), (Str.ofString "_law_at", none), (Str.ofString "_law_other", none)] G (by walk_at "room") ?z_ho ?z_hcd ?z_hbind ?z_hd ?z_hb1 ?z_hb2 ?z_hρ ?_
  walk_at "enter"
  intro L s S
  have hh := g.high
  have hww := g.wide
  have gg := gph g
  have hcl := cells_len rows wd
  have hlw := (len_wd g).1
  have hbig := big_heap (S.gr G)
  have hCnd := cells_nodup rows wd
  refine x_cutS S (fun ρ Λ => (∃ tw, ρ = [(Str.ofString "_law_rows_here", some (.ref lr)), (Str.ofString "_law_over_here", some (.ref d)), (Str.ofString "_law_shade", some (.int z tz)), (Str.ofString "_law_wide", some (.int wd tw)), (Str.ofString "_law_found", none), (Str.ofString "_law_waiting", none), (Str.ofString "_law_cell", none), (Str.ofString "_law_at", none), (Str.ofString "_law_other", none)]) ∧ Λ = []) ?_ ?_
  · intro Q' hQ
    walk_at "go"
    refine l_lenS S (hr.mono S.base) (by (first | lia | omega)) ?_; clear S; intro t s S
    walk_at "go"
    refine i_dec (fun hp => ?_) (fun hp => ?_)
    · walk_at "go"
      refine l_atS (hr.mono S.base) (by (first | lia | omega)) (by (first | lia | omega)) (by (first | lia | omega)) (by rfl) ?_
      intro t
      have hr0 := row_len g (show (0 : Int).toNat < rows.length by rw [Int.toNat_zero]; (first | lia | omega))
      walk_at "go"
      refine t_len S (by (first | lia | omega)) ?_; clear S; intro t s S
      rw [hr0]
      walk_at "go"
      exact hQ _ _ _ ⟨⟨_, rfl⟩, rfl⟩ S
    · have hwd : wd = 0 := g.none (List.length_eq_zero_iff.mp (by (first | lia | omega)))
      subst hwd
      walk_at "go"
      exact hQ _ _ _ ⟨⟨_, rfl⟩, rfl⟩ S
  clear S
  rintro ρ' Λ' s ⟨⟨tw, rfl⟩, rfl⟩ S
  have hbig := big_heap (S.gr G)
  walk_at "go"
  refine d_new S ?_; clear S; intro dF odF s Dn S hdF hdq
  have hdsF := not_mods (hdq ▸ hbig)
  walk_at "go"
  refine l_new S (by simp) ?_; clear S; intro lw s S _
  walk_at "go"
  refine lcells_spec (S.gr G) (R.in_ (by (first | lia | omega))) (hr.mono S.base) g ?_
  intro lc yc kc s' hD hD' hi hk
  obtain ⟨h₁, k₁, S', hN⟩ := CS.gnew S hk
  replace S := S'
  clear S'
  replace G := G.mono k₁
  replace hr := hr.mono k₁
  have hod₁ := k₁ _ _ hod
  have hoC := hN _ _ hD hD'
  clear hk hN hD hD'
  have hyc : yc.size = (cellsL rows wd).length := by rw [← hi.length, Array.length_toList]
  refine it_list S R.handled hoC rfl ⟨_, rfl⟩ ?_
  clear S
  intro it s I
  refine loop_it (fun i ρ Λ => ∃ a o1 ys k Fm W, ρ = [(Str.ofString "_law_rows_here", some (.ref lr)), (Str.ofString "_law_over_here", some (.ref d)), (Str.ofString "_law_shade", some (.int z tz)), (Str.ofString "_law_wide", some (.int wd tw)), (Str.ofString "_law_found", some (.ref dF)), (Str.ofString "_law_waiting", some (.ref lw)), (Str.ofString "_law_cell", a), (Str.ofString "_law_at", none), (Str.ofString "_law_other", none)] ∧ Λ = [(lw, lst ys k), (dF, o1)] ∧ IntsAre ys.toList W ∧ DG PP w RTrue o1 Fm ∧ LR (shadeN wd) z m (cellsL rows wd) i Fm W ∧ Fm.length ≤ i ∧ ys.size ≤ i) I ⟨_, _, _, _, _, _, rfl, rfl, .nil, Dn _ _, LR.start, Nat.le_refl _, Nat.le_refl _⟩ ?_ ?_ ?_
  · rintro i ρ' Λ' ⟨_, _, _, _, _, _, _, rfl, _⟩; rfl
  · rintro i v ρ₁ Λ₁ hi1 hv ⟨a, o1, ys, ky, Fm, W, rfl, rfl, hys, DF, LRi, hFl, hyl⟩
    obtain ⟨c, tc, rfl, hc⟩ := hi.at i v (by simpa using hv)
    have hcm := List.mem_of_getElem? hc
    have hcb : hasB rows wd c = true := by rw [← cells_mem]; exact decide_eq_true hcm
    obtain ⟨p0, p1⟩ := hasB_in hcb
    have hw0 := (g.at_ p0 p1).1
    refine ⟨_, .tail (.tail (.tail (.tail (.tail (.tail .head))))), ?_⟩
    walk_at "turn"
    have hod₂ := k _ _ hod₁
    clear k
    have hw1 : 0 < (wd : Int) := by (first | lia | omega)
    have hsh : shadeN wd c = (c / wd + c % wd) % 2 := by rw [shadeN, if_neg (by (first | lia | omega))]
    walk_at "go"
    refine d_notin S (S.atBase hod₂) D hds ?_; clear S; intro s S
    walk_at "go"
    refine i_bool (fun q1 => ?_) (fun q1 => ?_)
    · walk_at "go"
      refine hNx _ _ _ _ (Sub.refl _) S ⟨_, _, _, _, _, _, rfl, rfl, hys, DF, LRi.skip hc (fun q => ?_), by (first | lia | omega), by (first | lia | omega)⟩
      rw [q.1] at q1; cases q1
    · have hcn : mget m c = none := by
        cases e : mget m c with
        | none => rfl
        | some v => rw [e] at q1; cases q1
      walk_at "go"
      refine i_eq (fun q2 => ?_) (fun q2 => ?_)
      · walk_at "go"
        have z1 := mput_len Fm c ()
        refine d_set (a := ()) S (by walk_at "cf") DF rfl (by (first | lia | omega)) ?_; clear S; intro o2 s D2 S
        walk_at "go"
        refine l_append S (by walk_at "cf") (by (first | lia | omega)) ?_; clear S; intro k' s S
        walk_at "go"
        refine hNx _ _ _ _ (Sub.refl _) S ⟨_, _, _, _, _, _, rfl, rfl, ?_, D2, LRi.put hCnd hc hcn (hsh.trans q2), by (first | lia | omega), by rw [Array.size_push]; (first | lia | omega)⟩
        rw [Array.toList_push]; exact hys.append (.cons _ _ .nil)
      · walk_at "go"
        exact hNx _ _ _ _ (Sub.refl _) S ⟨_, _, _, _, _, _, rfl, rfl, hys, DF, LRi.skip hc (fun q => q2 (hsh.symm.trans q.2)), by (first | lia | omega), by (first | lia | omega)⟩
  clear I
  rintro ρ' Λ' s ⟨a, o1, ys, ky, Fm, W, rfl, rfl, hys, DF, LRi, hFl, hyl⟩ S
  rw [hyc] at LRi
  have B0 := LRi.fin gg M
  clear LRi hFl hyl
  walk_at "go"
  have lbl : ∀ {Fm : Mp Unit} {W : List Int} {p : Nat} {o1 : Obj}, DG PP w RTrue o1 Fm → LB (mayB rows wd) (shadeN wd) z m (cellsL rows wd) Fm W p → Fm.length ≤ (cellsL rows wd).length ∧ W.length ≤ (cellsL rows wd).length := fun {Fm W p o1} DF x => by
    have hin : ∀ c, (mget Fm c).isSome = true → c ∈ cellsL rows wd := fun c hc => x.snd (fun c => c ∈ cellsL rows wd) ⟨fun c h _ _ => h, fun a b _ _ hm => may_cell hm, fun b v _ hv => lay_cells M v b (M.inv b v hv).1⟩ c hc
    refine ⟨?_, nodup_len x.wn fun c hc => hin c ((x.wk c).mp hc).1⟩
    rw [← List.length_map (f := (·.1))]
    refine nodup_len DF.nodup fun c hc => hin c ?_
    cases e : mget Fm c with
    | some _ => rfl
    | none => exact absurd hc (mget_none_iff.mp e)
  refine x_while (n := (cellsL rows wd).length + 1) (fun k hp ρ Λ => ∃ a b o1 ys ky Fm W p tp, ρ = [(Str.ofString "_law_rows_here", some (.ref lr)), (Str.ofString "_law_over_here", some (.ref d)), (Str.ofString "_law_shade", some (.int z tz)), (Str.ofString "_law_wide", some (.int wd tw)), (Str.ofString "_law_found", some (.ref dF)), (Str.ofString "_law_waiting", some (.ref lw)), (Str.ofString "_law_cell", a), (Str.ofString "_law_at", some (.int (p : Nat) tp)), (Str.ofString "_law_other", b)] ∧ Λ = [(lw, lst ys ky), (dF, o1)] ∧ IntsAre ys.toList W ∧ DG PP w RTrue o1 Fm ∧ LB (mayB rows wd) (shadeN wd) z m (cellsL rows wd) Fm W p ∧ p ≤ W.length ∧ k + p = (cellsL rows wd).length + 1) S ⟨_, _, _, _, _, _, _, 0, _, rfl, rfl, hys, DF, B0, Nat.zero_le _, rfl⟩ ?_
  clear S B0 DF hys
  rintro k h₂ ρ₁ Λ₁ s ⟨a, b, o1, ys, ky, Fm, W, p, tp, rfl, rfl, hys, DF, B1, hp, hkp⟩ k₂ S
  replace G := G.mono k₂
  replace hr := hr.mono k₂
  have hod₂ := k₂ _ _ hod₁
  obtain ⟨hFl, hWl⟩ := lbl DF B1
  have hyl : ys.size = W.length := by rw [← hys.length, Array.length_toList]
  walk_at "go"
  refine l_len S (IntL.of (S.atLed (List.mem_cons_self ..)) hys) (by (first | lia | omega)) ?_; clear S; intro t s S
  walk_at "go"
  refine i_dec (fun hlt => ?_) (fun hlt => ?_)
  · walk_at "go"
    refine l_at (IntL.of (S.atLed (List.mem_cons_self ..)) hys) (by (first | lia | omega)) hlt (by (first | lia | omega)) (by rfl) ?_
    intro t
    rw [Int.toNat_natCast]
    have hpl : p < W.length := by (first | lia | omega)
    have hap : W[p]? = some (W.getD p 0) := by rw [List.getElem?_eq_getElem hpl]; simp [List.getD, hpl]
    have hac := ((B1.wk _).mp (List.mem_of_getElem? hap)).1
    have hin : W.getD p 0 ∈ cellsL rows wd := B1.snd (fun c => c ∈ cellsL rows wd) ⟨fun c h _ _ => h, fun a b _ _ hm => may_cell hm, fun b v _ hv => lay_cells M v b (M.inv b v hv).1⟩ _ hac
    generalize W.getD p 0 = cell at hap hac hin S ⊢
    have hcb : hasB rows wd cell = true := by rw [← cells_mem]; exact decide_eq_true hin
    walk_at "go"
    refine lbeside_spec (S.gr G) (R.in_ (by (first | lia | omega))) (hr.mono S.base) g hcb ?_
    intro lb yb kb s' hD hD' hib hk
    obtain ⟨h₃, k₃, S', hN⟩ := CS.gnew S hk
    replace S := S'
    clear S'
    replace G := G.mono k₃
    replace hr := hr.mono k₃
    have hod₃ := k₃ _ _ hod₂
    have hoB := hN _ _ hD hD'
    clear hk hN hD hD'
    have hyb : yb.size = (besideL rows wd cell).length := by rw [← hib.length, Array.length_toList]
    refine it_list S R.handled hoB rfl ⟨_, rfl⟩ ?_
    clear S
    intro it s I
    refine loop_it (fun j ρ Λ => ∃ b o1 ys ky Fm W, ρ = [(Str.ofString "_law_rows_here", some (.ref lr)), (Str.ofString "_law_over_here", some (.ref d)), (Str.ofString "_law_shade", some (.int z tz)), (Str.ofString "_law_wide", some (.int wd tw)), (Str.ofString "_law_found", some (.ref dF)), (Str.ofString "_law_waiting", some (.ref lw)), (Str.ofString "_law_cell", a), (Str.ofString "_law_at", some (.int (p : Nat) tp)), (Str.ofString "_law_other", b)] ∧ Λ = [(lw, lst ys ky), (dF, o1)] ∧ IntsAre ys.toList W ∧ DG PP w RTrue o1 Fm ∧ LM (mayB rows wd) (shadeN wd) z m (cellsL rows wd) cell (besideL rows wd cell) p j Fm W) I ⟨_, _, _, _, _, _, rfl, rfl, hys, DF, LM.start B1 hap⟩ ?_ ?_ ?_
    · rintro i ρ' Λ' ⟨_, _, _, _, _, _, _, rfl, _⟩; rfl
    · clear hys DF B1 hyl hFl hWl hap hac hpl hp hlt
      rintro j v ρ₁ Λ₁ hj1 hv ⟨b, o1, ys, ky, Fm, W, rfl, rfl, hys, DF, MJ⟩
      obtain ⟨o, to, rfl, ho⟩ := hib.at j v (by simpa using hv)
      have hmay := mem_beside.mp (List.mem_of_getElem? ho)
      obtain ⟨hFl, hWl⟩ := lbl DF MJ.lb
      have hyl : ys.size = W.length := by rw [← hys.length, Array.length_toList]
      have z1 := mput_len Fm o ()
      refine ⟨_, .tail (.tail (.tail (.tail (.tail (.tail (.tail (.tail .head))))))), ?_⟩
      intro h₄ s k₄ S Q'' hNx' hRet'
      replace G := G.mono k₄
      have hod₄ := k₄ _ _ hod₃
      walk_at "go"
      refine d_set (a := ()) S (by walk_at "cf") DF rfl (by (first | lia | omega)) ?_; clear S; intro o2 s D2 S
      walk_at "go"
      refine d_in S (S.atBase hod₄) D hds ?_; clear S; intro s S
      walk_at "go"
      refine i_bool (fun q1 => ?_) (fun q1 => ?_)
      · obtain ⟨x, hx⟩ := Option.isSome_iff_exists.mp q1
        walk_at "go"
        refine d_at S (S.atBase hod₄) D hx (by rfl) ?_; clear S; intro vx s hvx S
        obtain ⟨tx, rfl⟩ := hvx
        walk_at "go"
        refine d_notin S (S.atLed (by walk_at "mm")) D2 hdsF ?_; clear S; intro s S
        walk_at "go"
        refine i_bool (fun q2 => ?_) (fun q2 => ?_)
        · walk_at "go"
          exact hNx' _ _ _ _ (Sub.refl _) S ⟨_, _, _, _, _, _, rfl, rfl, hys, D2, MJ.one gg ho hmay fun v hv => by rw [hx] at hv; cases hv; exact q2⟩
        · have hxn : mget (mput Fm o ()) x = none := by
            cases e : mget (mput Fm o ()) x with
            | none => rfl
            | some v => rw [e] at q2; cases q2
          walk_at "go"
          refine d_at S (S.atBase hod₄) D hx (by rfl) ?_; clear S; intro vx s hvx S
          obtain ⟨tx2, rfl⟩ := hvx
          walk_at "go"
          refine d_set (a := ()) S (by walk_at "cf") D2 rfl (by (first | lia | omega)) ?_; clear S; intro o3 s D3 S
          walk_at "go"
          refine d_at S (S.atBase hod₄) D hx (by rfl) ?_; clear S; intro vx s hvx S
          obtain ⟨tx3, rfl⟩ := hvx
          walk_at "go"
          refine l_append S (by walk_at "cf") (by (first | lia | omega)) ?_; clear S; intro k' s S
          walk_at "go"
          refine hNx' _ _ _ _ (Sub.refl _) S ⟨_, _, _, _, _, _, rfl, rfl, ?_, D3, MJ.two gg M ho hmay hx hxn⟩
          rw [Array.toList_push]; exact hys.append (.cons _ _ .nil)
      · have hon : mget m o = none := by
          cases e : mget m o with
          | none => rfl
          | some v => rw [e] at q1; cases q1
        walk_at "go"
        exact hNx' _ _ _ _ (Sub.refl _) S ⟨_, _, _, _, _, _, rfl, rfl, hys, D2, MJ.one gg ho hmay fun v hv => by rw [hon] at hv; cases hv⟩
    · clear I
      rintro ρ' Λ' s ⟨b, o1, ys, ky, Fm, W, rfl, rfl, hys, DF, MJ⟩ S
      rw [hyb] at MJ
      have B2 := MJ.fin fun b hm => mem_beside.mpr hm
      have hpW := (List.getElem?_eq_some_iff.mp MJ.at_).1
      obtain ⟨hFl, hWl⟩ := lbl DF B2
      walk_at "go"
      refine loop_next ⟨k - 1, _, _, _, by (first | lia | omega), k₂.trans k₃, S, _, _, _, _, _, _, _, p + 1, _, rfl, rfl, hys, DF, B2, hpW, by (first | lia | omega)⟩
  · have hpe : p = W.length := by (first | lia | omega)
    subst hpe
    walk_at "go"
    have kA := k₁.trans k₂
    exact h dF o1 Fm s (kA.none ((S.led (dF, o1) (by walk_at "mm")).2.2.2 rfl)) (S.atLed (by walk_at "mm")) hdsF DF B1.least (by (first | lia | omega)) (S.outs kA)


theorem less_spec {w : World} {A : Around} {s : Shared} {Q E : Value → Shared → Prop} {ly fl l d d2 : Addr} {od od2 : Obj} {m m2 : Mp Int} {rows : List Str} {wd : Nat} {t1 t2 : Tok} {B : Heap} (hB : Sub B s.heap) (hd0 : B.get? d = none) (G : Gr (Fl.kH w.params) B) (R : Room A 6) (F : FloorAt 196 B fl l rows wd t1 t2) (Y : LayO B ly fl d)
    (hod : s.heap.get? d = some od) (D : DG PP w RInt od m) (hds : (d == sysModules) = false) (M : LayM (mayB rows wd) m) (hod2 : B.get? d2 = some od2) (D2 : DG PP w RInt od2 m2) (hds2 : (d2 == sysModules) = false) (M2 : LayM (mayB rows wd) m2) (ext : ∀ x, mget m x = mget m2 x)
    (h : ∀ d3 od3 od' m3 m' s', Upd d od' s s' → DG PP w RInt od' m' → LayM (mayB rows wd) m' → s.heap.get? d3 = none → s'.heap.get? d3 = some od3 → (d3 == sysModules) = false → DG PP w RInt od3 m3 → LayM (mayB rows wd) m3 → (∀ x, mget m' x = mget m3 x) → Q (.ref d3) s') : wpAny (model PP w) A (call (.ref 344) [.ref ly, .ref d2]) Q E s := by
  obtain ⟨W, w1, w2, w3⟩ := but_one s d
  have kB : Sub B W := fun x o e => w3 x o (fun q => by rw [q, hd0] at e; cases e) (hB x o e)
  have hW : ∀ a, a ≠ d → W.get? a = none → s.heap.get? a = none := fun a ha e => by
    cases q : s.heap.get? a with
    | none => rfl
    | some o => rw [w3 a o ha q] at e; cases e
  refine' callK (h₀ := W) (Λ := [(d, od)]) [(Str.ofString "_law_laying", some (.ref ly)), (Str.ofString "_law_over_here", some (.ref d2)), (Str.ofString "_law_less_here", none), (Str.ofString "_law_cell", none)] (G.mono hB) (by walk_at "room") ?z_ho ?z_hcd ?z_hbind ?z_hd ?z_hb1 ?z_hb2 ?z_hρ w1 (fun p hp => ?z_led) (by simp) ?_
  case z_led => rw [List.mem_singleton.mp hp]; exact ⟨hod, w2⟩
  walk_at "enter"
  intro L s S
  replace G := G.mono kB
  replace F := F.mono kB
  replace Y := ObjAt.mono Y kB
  replace hod2 := kB _ _ hod2
  have hcl := cells_len rows wd
  have hlw := (len_wd F.grid).1
  have hl1 := lay_len M
  have hl2 := lay_len M2
  have hbig := big_heap (S.gr G)
  walk_at "go"
  refine d_copy S (S.atBase hod2) D2 hds2 (by (first | lia | omega)) ?_; clear S; intro d3 od3 s D3 S hd3 hdq
  have hds3 := not_mods (hdq ▸ hbig)
  have nd := S.lnd
  simp only [List.map_cons, List.map_nil, List.nodup_cons, List.mem_singleton] at nd
  have hne : d3 ≠ d := nd.1
  have hd3' := hW d3 hne ((S.led (d3, od3) (List.mem_cons_self ..)).2.2.2 rfl)
  walk_at "go"
  refine d_len S (S.atLed (List.mem_cons_self ..)) D3 hds3 (by (first | lia | omega)) ?_; clear S; intro t s S
  walk_at "go"
  refine i_dec (fun hp => ?_) (fun hp => ?_)
  · walk_at "go"
    refine d_sorted S R.handled (S.atLed (List.mem_cons_self ..)) D3 hds3 (by (first | lia | omega)) ?_; clear S; intro ls out e ks s hout hperm _ S _
    have hkl : ks.length = m2.length := by rw [hperm.length_eq, List.length_map]
    walk_at "go"
    refine l_at (IntL.of (S.atLed (List.mem_cons_self ..)) hout) (by (first | lia | omega)) (by (first | lia | omega)) (by (first | lia | omega)) (by rfl) ?_
    intro t
    have hcm : ks.getD (0 : Int).toNat 0 ∈ ks := getD_mem (by rw [Int.toNat_zero]; (first | lia | omega))
    generalize ks.getD (0 : Int).toNat 0 = cell at hcm S ⊢
    obtain ⟨x, hx⟩ : ∃ x, mget m2 cell = some x := by
      have := hperm.mem_iff.mp hcm
      cases e : mget m2 cell with
      | some v => exact ⟨v, rfl⟩
      | none => exact absurd this (mget_none_iff.mp e)
    have hx1 : mget m cell = some x := by rw [ext]; exact hx
    obtain ⟨hxc, hmay⟩ := M2.inv cell x hx
    have hxne : x ≠ cell := Ne.symm ((gph F.grid).ne hmay)
    replace S := S.tl rfl
    walk_at "go"
    refine lift_spec S.base ((S.led (d, od) (by walk_at "mm")).2.2.2 rfl) G (R.in_ (by (first | lia | omega))) F Y (S.atLed (by walk_at "mm")) D hds M hx1 (by (first | lia | omega)) ?_
    intro od1 s' D1 up
    replace S := S.upd (by walk_at "cf") up
    walk_at "go"
    refine m_dict (S.atLed (List.mem_cons_self ..)) D3 PySem.F.slot_dict_pop PySem.F.type_dict_pop ?_
    walk_at "go"
    refine m_dict (S.atLed (List.mem_cons_self ..)) D3 PySem.F.slot_dict_pop PySem.F.type_dict_pop ?_
    walk_at "go"
    refine d_pop S (by walk_at "cf") D3 hx (by (first | lia | omega)) ?_; clear S; intro vx od4 s hvx D4 S
    obtain ⟨tx, rfl⟩ := hvx
    have hx2 : mget (mdel m2 cell) x = some cell := by rw [mget_mdel, if_neg hxne]; exact hxc
    have hdl := mdel_len m2 cell
    walk_at "go"
    refine d_pop S (by walk_at "cf") D4 hx2 (by (first | lia | omega)) ?_; clear S; intro vy od5 s hvy D5 S
    walk_at "go"
    refine h d3 od5 od1 _ _ s ⟨S.same, fun y o hy e => S.base _ _ (w3 y o hy e), S.atLed (by walk_at "mm")⟩ D1 (M.lift hx1) ?_ (S.atLed (List.mem_cons_self ..)) hds3 D5 (M2.lift hx) fun y => ?_
    · exact hd3'
    · rw [mget_mdel, mget_mdel, mget_mdel, mget_mdel, ext]
  · walk_at "go"
    exact h d3 od3 od m2 m s ⟨S.same, fun y o hy e => S.base _ _ (w3 y o hy e), S.atLed (by walk_at "mm")⟩ D M hd3' (S.atLed (List.mem_cons_self ..)) hds3 D3 M2 ext


theorem link_spec {w : World} {A : Around} {s : Shared} {Q E : Value → Shared → Prop} {lr d dF : Addr} {od odF : Obj} {m : Mp Int} {Fm : Mp (Option Int)} {rows : List Str} {wd : Nat} {tz tc : Tok} {z c : Int} {x : Option Int} (G : Gr (Fl.kH w.params) s.heap) (R : Room A 3) (hr : StrL s.heap lr rows) (g : Grid rows wd)
    (hod : s.heap.get? d = some od) (D : DG PP w RInt od m) (hds : (d == sysModules) = false) (hoF : s.heap.get? dF = some odF) (DF : DG PP w ROpt odF Fm) (hdF : (dF == sysModules) = false) (hc : c ∈ cellsL rows wd) (hx : mget Fm c = some x) (K : Lnk (mayB rows wd) (shadeN wd) z m Fm c x)
    (h : ∀ s', Keeps s s' → Q (.bool true) s') : wpAny (model PP w) A (call (.ref 330) [.ref lr, .ref d, .int z tz, .ref dF, .int c tc]) Q E s := by
  refine' callP [(Str.ofString "_law_rows_here", some (.ref lr)), (Str.ofString "_law_over_here", some (.ref d)), (Str.ofString "_law_shade", some (.int z tz)), (Str.ofString "_law_found", some (.ref dF)), (Str.ofString "_law_cell", some (.int c tc)), (Str.ofString "_law_wide", none), (Str.ofString "_law_ahead", none)] G (by walk_at "room") ?z_ho ?z_hcd ?z_hbind ?z_hd ?z_hb1 ?z_hb2 ?z_hρ ?_
  walk_at "enter"
  intro L s S
  have hh := g.high
  have hww := g.wide
  have hcb : hasB rows wd c = true := by rw [← cells_mem]; exact decide_eq_true hc
  obtain ⟨p0, p1⟩ := hasB_in hcb
  have hat := (g.at_ p0 p1).1
  have hw : 0 < (wd : Int) := by (first | lia | omega)
  have hsh : shadeN wd c = (c / wd + c % wd) % 2 := by rw [shadeN, if_neg (by (first | lia | omega))]
  have hrl : 0 < rows.length := by
    rcases Nat.eq_zero_or_pos rows.length with q | q
    · rw [q] at p1; (first | lia | omega)
    · exact q
  walk_at "go"
  refine l_atS (hr.mono S.base) (by (first | lia | omega)) (by (first | lia | omega)) (by (first | lia | omega)) (by rfl) ?_
  intro t
  have hr0 := row_len g (show (0 : Int).toNat < rows.length by rw [Int.toNat_zero]; (first | lia | omega))
  walk_at "go"
  refine t_len S (by (first | lia | omega)) ?_; clear S; intro t s S
  rw [hr0]
  walk_at "go"
  refine d_at S (S.atBase hoF) DF hx (by rfl) ?_; clear S; intro vx s hvx S
  walk_at "go"
  refine whole_spec (S.gr G) (R.in_ (by (first | lia | omega))) ?_
  walk_at "kp"
  walk_at "go"
  rw [← hsh]
  cases K with
  | root k1 k2 =>
    have hvx' : vx = .none := hvx
    subst hvx'
    walk_at "go"
    refine i_ne (fun q => absurd k1 q) (fun _ => ?_)
    walk_at "go"
    refine d_notin S (S.atBase hod) D hds ?_; clear S; intro s S
    rw [k2, Option.isSome_none, Bool.not_false]
    walk_at "go"
    refine wpAny_is_self rfl ?_
    walk_at "go"
    exact h _ S.out
  | leaf k1 k2 k3 =>
    obtain ⟨ta, rfl⟩ := hvx
    walk_at "go"
    refine i_ne (fun _ => ?_) (fun q => absurd q k1)
    walk_at "go"
    refine whole_spec (S.gr G) (R.in_ (by (first | lia | omega))) ?_
    walk_at "kp"
    walk_at "go"
    refine d_in S (S.atBase hoF) DF hdF ?_; clear S; intro s S
    rw [k2]
    walk_at "go"
    refine lmay_spec (S.gr G) (R.in_ (by (first | lia | omega))) (hr.mono S.base) g ?_
    walk_at "kp"
    rw [← may_eq g, k3]
    walk_at "go"
    exact h _ S.out
  | mate k1 k2 =>
    obtain ⟨ta, rfl⟩ := hvx
    walk_at "go"
    refine i_ne (fun q => absurd k1 q) (fun _ => ?_)
    walk_at "go"
    refine d_notin S (S.atBase hod) D hds ?_; clear S; intro s S
    rw [k2, Option.isSome_some, Bool.not_true]
    walk_at "go"
    refine whole_spec (S.gr G) (R.in_ (by (first | lia | omega))) ?_
    walk_at "kp"
    walk_at "go"
    refine d_at S (S.atBase hod) D k2 (by rfl) ?_; clear S; intro vy s hvy S
    obtain ⟨tb, rfl⟩ := hvy
    walk_at "go"
    rw [beq_self_eq_true]
    exact h _ S.out


theorem lway_spec {w : World} {A : Around} {s : Shared} {Q E : Value → Shared → Prop} {lr d dF lw : Addr} {od odF : Obj} {m : Mp Int} {Fm : Mp (Option Int)} {tc : Tok} {c : Int} {W : List Int} (G : Gr (Fl.kH w.params) s.heap) (R : Room A 3)
    (hod : s.heap.get? d = some od) (D : DG PP w RInt od m) (hds : (d == sysModules) = false) (hoF : s.heap.get? dF = some odF) (DF : DG PP w ROpt odF Fm) (hl : IntL s.heap lw W) (hn : W.length ≤ 1000) (K : WayOk m Fm c W)
    (h : ∀ s', Keeps s s' → Q (.bool true) s') : wpAny (model PP w) A (call (.ref 337) [.ref lr, .ref d, .ref dF, .ref lw, .int c tc]) Q E s := by
  refine' callP [(Str.ofString "_law_rows_here", some (.ref lr)), (Str.ofString "_law_over_here", some (.ref d)), (Str.ofString "_law_found", some (.ref dF)), (Str.ofString "_law_way_here", some (.ref lw)), (Str.ofString "_law_cell", some (.int c tc)), (Str.ofString "_law_k", none)] G (by walk_at "room") ?z_ho ?z_hcd ?z_hbind ?z_hd ?z_hb1 ?z_hb2 ?z_hρ ?_
  walk_at "enter"
  intro L s S
  have hpos := K.pos
  obtain ⟨vs, hls, hi⟩ := id hl
  walk_at "go"
  refine y_list_list (isList_mono hls S.base) ?_
  walk_at "go"
  refine l_len S (hl.mono S.base) (by (first | lia | omega)) ?_; clear S; intro t s S
  walk_at "go"
  refine i_eq (fun q => absurd q (by (first | lia | omega))) (fun _ => ?_)
  walk_at "go"
  refine l_last (hl.mono S.base) (by (first | lia | omega)) (by (first | lia | omega)) (by rfl) ?_
  intro t
  rw [K.last]
  walk_at "go"
  refine i_ne (fun q => absurd rfl q) (fun _ => ?_)
  walk_at "go"
  refine r_set S R.handled (hl.mono S.base) (by (first | lia | omega)) K.nd ?_; clear S; intro sa so s hso S
  walk_at "go"
  refine s_len S (S.atLed (List.mem_cons_self ..)) hso (by (first | lia | omega)) ?_; clear S; intro t s S
  replace S := S.tl rfl
  walk_at "go"
  refine l_len S (hl.mono S.base) (by (first | lia | omega)) ?_; clear S; intro t s S
  walk_at "go"
  refine i_ne (fun q => absurd rfl q) (fun _ => ?_)
  walk_at "go"
  refine l_at (hl.mono S.base) (by (first | lia | omega)) (by (first | lia | omega)) (by (first | lia | omega)) (by rfl) ?_
  intro t
  rw [Int.toNat_zero]
  walk_at "go"
  refine d_in S (S.atBase hod) D hds ?_; clear S; intro s S
  rw [K.bare, Option.isSome_none]
  walk_at "go"
  refine l_at (hl.mono S.base) (by (first | lia | omega)) (by (first | lia | omega)) (by (first | lia | omega)) (by rfl) ?_
  intro t
  rw [Int.toNat_zero]
  walk_at "go"
  refine d_at S (S.atBase hoF) DF K.root (by rfl) ?_; clear S; intro vx s hvx S
  have hvx' : vx = .none := hvx
  subst hvx'
  walk_at "go"
  refine w_isnone ?_
  walk_at "go"
  refine l_len S (hl.mono S.base) (by (first | lia | omega)) ?_; clear S; intro t s S
  walk_at "go"
  refine r_range1 S ?_; clear S; intro r u1 u2 u3 s hr' S
  refine it_range1 S R.handled hr' (by (first | lia | omega)) (by (first | lia | omega)) ?_
  clear S
  intro it s It
  refine loop_it (fun i ρ Λ => (∃ a, ρ = [(Str.ofString "_law_rows_here", some (.ref lr)), (Str.ofString "_law_over_here", some (.ref d)), (Str.ofString "_law_found", some (.ref dF)), (Str.ofString "_law_way_here", some (.ref lw)), (Str.ofString "_law_cell", some (.int c tc)), (Str.ofString "_law_k", a)]) ∧ Λ = []) It ⟨⟨_, rfl⟩, rfl⟩ ?_ ?_ ?_
  · rintro i ρ' Λ' ⟨_, rfl⟩; rfl
  · rintro i v ρ₁ Λ₁ hi1 ⟨tv, rfl⟩ ⟨⟨a, rfl⟩, rfl⟩
    refine ⟨_, .tail (.tail (.tail (.tail (.tail .head)))), ?_⟩
    walk_at "turn"
    replace hl := hl.mono k
    replace hod := k _ _ hod
    replace hoF := k _ _ hoF
    clear k
    have e1 : ((i : Int) + 1).toNat = i + 1 := by (first | lia | omega)
    have e2 : ((i : Int) + 1 - 1).toNat = i := by (first | lia | omega)
    have hst := K.step (i + 1) (by (first | lia | omega)) (by (first | lia | omega))
    rw [Nat.add_sub_cancel] at hst
    walk_at "go"
    refine l_at (hl.mono S.base) (by (first | lia | omega)) (by (first | lia | omega)) (by (first | lia | omega)) (by rfl) ?_
    intro t
    rw [e1]
    walk_at "go"
    refine whole_spec (S.gr G) (R.in_ (by (first | lia | omega))) ?_
    walk_at "kp"
    walk_at "go"
    refine l_at (hl.mono S.base) (by (first | lia | omega)) (by (first | lia | omega)) (by (first | lia | omega)) (by rfl) ?_
    intro t
    rw [e1]
    walk_at "go"
    refine d_at S (S.atBase hoF) DF hst (by rfl) ?_; clear S; intro vx s hvx S
    obtain ⟨ta, rfl⟩ := hvx
    walk_at "go"
    refine l_at (hl.mono S.base) (by (first | lia | omega)) (by (first | lia | omega)) (by (first | lia | omega)) (by rfl) ?_
    intro t
    rw [e2]
    walk_at "go"
    refine i_ne (fun q => absurd rfl q) (fun _ => ?_)
    walk_at "go"
    refine i_eq (fun hp => ?_) (fun hp => ?_)
    · have hmt := K.mate (i + 1) (by (first | lia | omega)) (by (first | lia | omega)) (by (first | lia | omega))
      rw [Nat.add_sub_cancel] at hmt
      walk_at "go"
      refine m_dict (S.atBase hod) D PySem.F.slot_dict_get PySem.F.type_dict_get ?_
      walk_at "go"
      refine l_at (hl.mono S.base) (by (first | lia | omega)) (by (first | lia | omega)) (by (first | lia | omega)) (by rfl) ?_
      intro t
      rw [e2]
      walk_at "go"
      refine d_get S (S.atBase hod) D hds hmt ?_; clear S; intro vx s hvx S
      obtain ⟨ta, rfl⟩ := hvx
      walk_at "go"
      refine l_at (hl.mono S.base) (by (first | lia | omega)) (by (first | lia | omega)) (by (first | lia | omega)) (by rfl) ?_
      intro t
      rw [e1]
      walk_at "go"
      refine i_ne (fun q => absurd rfl q) (fun _ => ?_)
      walk_at "go"
      exact hNx _ _ _ _ (Sub.refl _) S ⟨⟨_, rfl⟩, rfl⟩
    · walk_at "go"
      exact hNx _ _ _ _ (Sub.refl _) S ⟨⟨_, rfl⟩, rfl⟩
  clear It
  rintro ρ' Λ' s ⟨⟨a, rfl⟩, rfl⟩ S
  walk_at "go"
  refine l_at (hl.mono S.base) (by (first | lia | omega)) (by (first | lia | omega)) (by (first | lia | omega)) (by rfl) ?_
  intro t
  walk_at "go"
  refine whole_spec (S.gr G) (R.in_ (by (first | lia | omega))) ?_
  walk_at "kp"
  walk_at "go"
  exact h _ S.out


theorem law_spec {w : World} {A : Around} {s : Shared} {R' : Result → Shared → Prop} {l : Addr} {ns : List Int} (hfr : A.frames = some []) (G : Gr (Fl.kH w.params) s.heap) (R : Room A 40) (hl : IntL s.heap l ns) (hn : ns.length ≤ 63)
    (h : ∀ s', Keeps s s' → R' (.ok (.ret (.bool true))) s') : codeAny (model PP w) A (.call (.ref 351) ⟨[.ref l], []⟩) R' s := by
  refine' callC [(Str.ofString "_law_script", some (.ref l)), (Str.ofString "_law_rows_here", none), (Str.ofString "_law_over_here", none), (Str.ofString "_law_laying", none), (Str.ofString "_law_shade", none), (Str.ofString "_law_found", none), (Str.ofString "_law_due", none), (Str.ofString "_law_cell", none), (Str.ofString "_law_told", none), (Str.ofString "_law_cells_here", none), (Str.ofString "_law_k", none), (Str.ofString "_law_less_here", none), (Str.ofString "_law_again", none)] G (by walk_at "room") ?z_ho ?z_hcd ?z_hbind ?z_hd ?z_hb1 ?z_hb2 ?z_hρ ?_
  walk_at "enter"
  intro L s S
  walk_at "go"
  refine rows_spec (S.gr G) (R.in_ (by (first | lia | omega))) (hl.mono S.base) hn ?_
  intro lr ys ky rows wd s' hD hD' hys g hk
  walk_at "gnew"
  have B : Sub _ h₁ := k
  replace hl := hl.mono k
  have hoR := hN _ _ hD hD'
  have hr : StrL h₁ lr rows := StrL.of hoR hys
  clear hk hN k hD hD'
  have hh := g.high
  have hww := g.wide
  have hysz : ys.size = rows.length := by rw [← hys.length, Array.length_toList]
  obtain ⟨hl1, hl2⟩ := len_wd g
  have hcl := cells_len rows wd
  have gg := gph g
  walk_at "go"
  refine cell_at_spec (S.gr G) (R.in_ (by (first | lia | omega))) (hl.mono S.base) hn (by (first | lia | omega)) ?_
  walk_at "kpt"
  walk_at "go"
  refine over_spec (S.gr G) (R.in_ (by (first | lia | omega))) (hr.mono S.base) g (hl.mono S.base) hn (by (first | lia | omega)) (by (first | lia | omega)) ?_
  intro d od m s' hD hD' hds D M hk
  walk_at "gnew"
  replace B := B.trans k
  replace hl := hl.mono k
  replace hr := hr.mono k
  replace hoR := k _ _ hoR
  have hod := hN _ _ hD hD'
  clear hk hN k hD hD'
  have hml := lay_len M
  walk_at "go"
  refine l_copy S (S.atBase hoR) rfl rfl (by (first | lia | omega)) ?_; clear S; intro lh c s S _
  walk_at "go"
  refine floor_spec (S.gr G) (R.in_ (by (first | lia | omega))) (StrL.of (S.atLed (by walk_at "mm")) hys) g ?_
  intro fl l' t1 t2 s' hF _ hk
  replace S := S
  walk_at "gnew"
  replace B := B.trans k
  replace hl := hl.mono k
  replace hr := hr.mono k
  replace hod := k _ _ hod
  have F := hF h₁ hN
  clear hk hN k hF hoR
  replace S := S.tl rfl
  walk_at "go"
  refine made_spec (S.gr G) (R.in_ (by (first | lia | omega))) (F.mono S.base) (S.atBase hod) D hds M ?_
  intro ly dx o2 d' od' m' s' P n1 n2 ne1 ne2 D' M' ext hd' hd'' hds' hk
  obtain ⟨h₁, k, S', hall⟩ := S.adoptW hk hd' hd''
  replace S := S'
  clear S'
  have P₁ : LayP h₁ ly dx o2 fl d' := ⟨hall _ _ n1 ne1 P.a1, hall _ _ n2 ne2 P.a2, P.lk⟩
  clear P hall hk n1 n2 hd' hd''
  replace G := G.mono k
  replace B := B.trans k
  replace hl := hl.mono k
  replace hr := hr.mono k
  replace hod := k _ _ hod
  replace F := F.mono k
  have Y := P₁.obj
  clear k
  walk_at "go"
  refine cell_at_spec (S.gr G) (R.in_ (by (first | lia | omega))) (hl.mono S.base) hn (by (first | lia | omega)) ?_
  walk_at "kpt"
  have hz : cellAt ns 3 % 2 = 0 ∨ cellAt ns 3 % 2 = 1 := by (first | lia | omega)
  walk_at "go"
  rename Tok => tz
  generalize cellAt ns 3 % 2 = z at hz S ⊢
  refine reached_spec (S.gr G) (R.in_ (by (first | lia | omega))) (F.mono S.base) (ObjAt.mono Y S.base) (S.atLed (List.mem_cons_self ..)) D' hds' M' ?_
  intro dX odX Xm WX s' hD hD' hdX DX BX hk
  replace S := S.adopt hk hD hD'
  have hXl := wf_len gg M' DX.nodup BX.wf BX.rt
  clear hk hD hD' BX
  walk_at "go"
  refine m_dict (S.atLed (List.mem_cons_self ..)) DX PySem.F.slot_dict_clear PySem.F.type_dict_clear ?_
  walk_at "go"
  refine d_clear S DX (by (first | lia | omega)) ?_; clear S; intro s S
  walk_at "go"
  refine reached_spec (S.gr G) (R.in_ (by (first | lia | omega))) (F.mono S.base) (ObjAt.mono Y S.base) (S.atLed (List.mem_cons_self ..)) D' hds' M' ?_
  intro dF odF Fm WF s' hD hD' hdF DF BF hk
  walk_at "gnew"
  replace B := B.trans k
  replace hl := hl.mono k
  replace hr := hr.mono k
  replace hod := k _ _ hod
  replace F := F.mono k
  replace Y := ObjAt.mono Y k
  have hoF := hN _ _ hD hD'
  clear hk hN k hD hD' DX hXl hdX
  have hFl := wf_len gg M' DF.nodup BF.wf BF.rt
  walk_at "go"
  refine lreached_spec (S.gr G) (R.in_ (by (first | lia | omega))) (hr.mono S.base) g (S.atBase hod) D hds M ?_
  intro dG odG Gm s' hD hD' hdG DGm hGm hGl hk
  walk_at "gnew"
  replace B := B.trans k
  replace hl := hl.mono k
  replace hr := hr.mono k
  replace hod := k _ _ hod
  replace F := F.mono k
  replace Y := ObjAt.mono Y k
  replace hoF := k _ _ hoF
  have hoG := hN _ _ hD hD'
  clear hk hN k hD hD'
  have hFG : ∀ c, (mget Fm c).isSome = (mget Gm c).isSome := fun c => by
    rw [Bool.eq_iff_iff, hGm, BF.least gg M']; exact Clo.least_ext ext c
  walk_at "go"
  refine y_dict (S.atBase hoF) DF ?_
  walk_at "go"
  refine d_sorted S R.handled (S.atBase hoF) DF hdF (by (first | lia | omega)) ?_
  clear S
  intro l1 o1 k1 n1 s q1 q2 q3 S _
  walk_at "go"
  refine d_sorted S R.handled (S.atBase hoG) DGm hdG (by (first | lia | omega)) ?_
  clear S
  intro l2 o2 k2 n2 s r1 r2 r3 S _
  have hnn : n1 = n2 := sorted_eq ((q2.trans (keys_perm DF.nodup DGm.nodup hFG)).trans r2.symm) q3 r3
  walk_at "go"
  refine l_ne (IntL.of (S.atLed (.tail _ (List.mem_cons_self ..))) q1) (IntL.of (S.atLed (List.mem_cons_self ..)) r1) (by walk_at "room") ?_
  rw [decide_eq_true hnn]
  clear hnn q1 q2 q3 r1 r2 r3
  replace S := (S.tl rfl).tl rfl
  walk_at "go"
  refine d_neF fl_int eqv_int (S.atLed (List.mem_cons_self ..)) D' hds' (S.atBase hod) D hds (by walk_at "room") ext ?_
  walk_at "go"
  refine it_dict S R.handled hoF DF hdF ?_
  clear S
  intro it s It
  have hFC : ∀ c x, mget Fm c = some x → c ∈ cellsL rows wd := BF.wf.cells gg M' (C := fun c => c ∈ cellsL rows wd) (fun a c h => may_cell h) (fun c x q e => BF.rt c (e ▸ q))
  have hkey : ∀ c, c ∈ Fm.map (·.1) → ∃ x, mget Fm c = some x := fun c hc => by
    cases q : mget Fm c with
    | none => exact absurd hc (mget_none_iff.mp q)
    | some x => exact ⟨x, rfl⟩
  refine loop_it (fun i ρ Λ => (∃ a, ρ = [(Str.ofString "_law_script", some (.ref l)), (Str.ofString "_law_rows_here", some (.ref lr)), (Str.ofString "_law_over_here", some (.ref d)), (Str.ofString "_law_laying", some (.ref ly)), (Str.ofString "_law_shade", some (.int z tz)), (Str.ofString "_law_found", some (.ref dF)), (Str.ofString "_law_due", some (.ref dG)), (Str.ofString "_law_cell", a), (Str.ofString "_law_told", none), (Str.ofString "_law_cells_here", none), (Str.ofString "_law_k", none), (Str.ofString "_law_less_here", none), (Str.ofString "_law_again", none)]) ∧ Λ = [(d', od')]) It ⟨⟨_, rfl⟩, rfl⟩ ?_ ?_ ?_
  · rintro i ρ' Λ' ⟨_, rfl⟩; rfl
  · rintro i v ρ₁ Λ₁ hi1 ⟨c, tc, hcg, rfl⟩ ⟨⟨a, rfl⟩, rfl⟩
    refine ⟨_, .tail (.tail (.tail (.tail (.tail (.tail (.tail .head)))))), ?_⟩
    obtain ⟨x, hx⟩ := hkey c (List.mem_of_getElem? hcg)
    walk_at "turn"
    replace hr := hr.mono k
    replace hod := k _ _ hod
    replace hoF := k _ _ hoF
    clear k
    walk_at "go"
    refine link_spec (S.gr G) (R.in_ (by (first | lia | omega))) (hr.mono S.base) g (S.atBase hod) D hds (S.atBase hoF) DF hdF (hFC c x hx) hx ((BF.wf.lnk gg M' hx).ext ext) ?_
    walk_at "kp"
    walk_at "go"
    exact hNx _ _ _ _ (Sub.refl _) S ⟨⟨_, rfl⟩, rfl⟩
  clear It
  rintro ρ' Λ' s ⟨⟨a, rfl⟩, rfl⟩ S
  have hbig := big_heap (S.gr G)
  walk_at "go"
  refine d_copy S (S.atBase hoF) DF hdF (by (first | lia | omega)) ?_
  clear S
  intro dT odT s DT S _ hdq
  have hdT := not_mods (hdq ▸ hbig)
  clear hdq hbig
  walk_at "go"
  obtain ⟨h₁, k, hoT, S'⟩ := S.freeze
  replace S := S'
  clear S'
  replace G := G.mono k
  replace B := B.trans k
  replace hl := hl.mono k
  replace hr := hr.mono k
  replace hod := k _ _ hod
  replace F := F.mono k
  replace Y := ObjAt.mono Y k
  replace hoF := k _ _ hoF
  clear k
  refine d_sorted S R.handled (S.atBase hoF) DF hdF (by (first | lia | omega)) ?_
  clear S
  intro lS yS kS nS s hyS hpS hoS S _
  walk_at "go"
  obtain ⟨h₁, k, hoL, S'⟩ := S.freeze
  replace S := S'
  clear S'
  replace G := G.mono k
  replace B := B.trans k
  replace hl := hl.mono k
  replace hr := hr.mono k
  replace hod := k _ _ hod
  replace F := F.mono k
  replace Y := ObjAt.mono Y k
  replace hoF := k _ _ hoF
  replace hoT := k _ _ hoT
  have hLS : IntL h₁ lS nS := IntL.of hoL hyS
  clear k hoL hyS hoS
  have hnS : nS.length = Fm.length := by rw [hpS.length_eq, List.length_map]
  refine l_len S (hLS.mono S.base) (by (first | lia | omega)) ?_; clear S; intro t s S
  walk_at "go"
  refine r_range S ?_; clear S; intro r u1 u2 u3 s hr' S
  refine it_range S R.handled hr' (by (first | lia | omega)) (by (first | lia | omega)) ?_
  clear S
  intro it s It
  refine loop_it (fun i ρ Λ => (∃ a b, ρ = [(Str.ofString "_law_script", some (.ref l)), (Str.ofString "_law_rows_here", some (.ref lr)), (Str.ofString "_law_over_here", some (.ref d)), (Str.ofString "_law_laying", some (.ref ly)), (Str.ofString "_law_shade", some (.int z tz)), (Str.ofString "_law_found", some (.ref dF)), (Str.ofString "_law_due", some (.ref dG)), (Str.ofString "_law_cell", a), (Str.ofString "_law_told", some (.ref dT)), (Str.ofString "_law_cells_here", some (.ref lS)), (Str.ofString "_law_k", b), (Str.ofString "_law_less_here", none), (Str.ofString "_law_again", none)]) ∧ Λ = [(d', od')]) It ⟨⟨_, _, rfl⟩, rfl⟩ ?_ ?_ ?_
  · rintro i ρ' Λ' ⟨_, rfl⟩; rfl
  · rintro i v ρ₁ Λ₁ hi1 ⟨tv, rfl⟩ ⟨⟨a, b, rfl⟩, rfl⟩
    refine ⟨_, .tail (.tail (.tail (.tail (.tail (.tail (.tail (.tail (.tail (.tail .head))))))))), ?_⟩
    walk_at "turn"
    replace hl := hl.mono k
    replace hod := k _ _ hod
    replace hoF := k _ _ hoF
    replace hoT := k _ _ hoT
    replace hLS := hLS.mono k
    clear k
    have hmul : IntMulOk (7 : Int) (i : Int) := IntMulOk.of_left (by decide)
    walk_at "go"
    refine cell_at_spec (S.gr G) (R.in_ (by (first | lia | omega))) (hl.mono S.base) hn (by (first | lia | omega)) ?_
    walk_at "kpt"
    walk_at "go"
    refine l_len S (hLS.mono S.base) (by (first | lia | omega)) ?_; clear S; intro t s S
    have hnp : 0 < (nS.length : Int) := by (first | lia | omega)
    walk_at "go"
    generalize hj : (cellAt ns 4 + 7 * (i : Int)) % (nS.length : Int) = j at S ⊢
    have j1 : 0 ≤ j := by rw [← hj]; exact Int.emod_nonneg _ (by (first | lia | omega))
    have j2 : j < nS.length := by rw [← hj]; exact Int.emod_lt_of_pos _ hnp
    clear hj
    refine l_at (hLS.mono S.base) j1 j2 (by (first | lia | omega)) (by rfl) ?_
    intro t
    have hcm : nS.getD j.toNat 0 ∈ nS := getD_mem (by (first | lia | omega))
    generalize nS.getD j.toNat 0 = c at hcm S ⊢
    obtain ⟨x, hx⟩ := hkey c (hpS.mem_iff.mp hcm)
    obtain ⟨P, hP⟩ := BF.wf.path gg M' c x hx
    have hPs := hP.steps
    have hPo := (hP.ok gg M').1.ext ext
    have hPl : P.length ≤ (cellsL rows wd).length := by
      rw [← List.length_reverse (as := P)]
      refine nodup_len hPo.nd fun y hy => ?_
      have := hP.in_ y (List.mem_reverse.mp hy)
      obtain ⟨u, hu⟩ := Option.isSome_iff_exists.mp this
      exact hFC y u hu
    clear hP
    walk_at "go"
    refine way_spec (S.gr G) (R.in_ (by (first | lia | omega))) (S.atBase hoF) DF hPs.1 hPs.2 (by (first | lia | omega)) ?_
    intro lw yw kw s' hD hD' hyw hk
    obtain ⟨h₂, k₂, S', hN⟩ := CS.gnew S hk
    replace S := S'
    clear S'
    replace G := G.mono k₂
    replace hod := k₂ _ _ hod
    replace hoF := k₂ _ _ hoF
    replace hoT := k₂ _ _ hoT
    have hLw : IntL h₂ lw P.reverse := IntL.of (hN _ _ hD hD') hyw
    clear hk hN hD hD' hyw
    walk_at "go"
    refine lway_spec (S.gr G) (R.in_ (by (first | lia | omega))) (S.atBase hod) D hds (S.atBase hoT) DT (hLw.mono S.base) (by rw [List.length_reverse]; (first | lia | omega)) hPo ?_
    walk_at "kp"
    walk_at "go"
    refine d_neF fl_opt eqv_opt (S.atBase hoF) DF hdF (S.atBase hoT) DT hdT (by walk_at "room") (fun _ => rfl) ?_
    walk_at "go"
    exact hNx _ _ _ _ k₂ S ⟨⟨_, _, rfl⟩, rfl⟩
  clear It
  rintro ρ' Λ' s ⟨⟨a, b, rfl⟩, rfl⟩ S
  walk_at "go"
  have hno : ∀ a, CS.own _ [(d', od')] a → ∃ o, s.heap.get? a = some o := fun a q => S.own_at q
  refine less_spec S.base ((S.led _ (List.mem_cons_self ..)).2.2.2 rfl) G (R.in_ (by (first | lia | omega))) F Y (S.atLed (List.mem_cons_self ..)) D' hds' M' hod D hds M ext ?_
  intro d3 od3 od2 m3 m2 s' U D2 M2 n3 e3 hds3 D3 M3 ext3
  have hn3 : ¬ CS.own _ [(d', od')] d3 := fun q => by obtain ⟨o, e⟩ := hno d3 q; rw [n3] at e; cases e
  replace S := S.upd .head U
  clear U n3 hno
  obtain ⟨h₁, k, S', hN⟩ := S.wide
  have ho3 := hN _ _ e3 hn3
  replace S := S'
  clear S' hN hn3 e3
  replace G := G.mono k
  replace B := B.trans k
  replace hr := hr.mono k
  replace F := F.mono k
  replace Y := ObjAt.mono Y k
  replace hoF := k _ _ hoF
  replace hoT := k _ _ hoT
  clear k
  walk_at "go"
  refine reached_spec (S.gr G) (R.in_ (by (first | lia | omega))) (F.mono S.base) (ObjAt.mono Y S.base) (S.atLed (List.mem_cons_self ..)) D2 hds' M2 ?_
  intro dX odX Xm WX s' hD hD' hdX DX BX hk
  walk_at "gnew"
  replace B := B.trans k
  replace hr := hr.mono k
  replace hoF := k _ _ hoF
  replace hoT := k _ _ hoT
  replace ho3 := k _ _ ho3
  have hoX := hN _ _ hD hD'
  clear hk hN k hD hD'
  have hXl := wf_len gg M2 DX.nodup BX.wf BX.rt
  walk_at "go"
  refine d_sorted S R.handled (S.atBase hoX) DX hdX (by (first | lia | omega)) ?_
  clear S
  intro l1 o1 k1 n1 s q1 q2 q3 S _
  walk_at "go"
  obtain ⟨h₁, k, hol1, S'⟩ := S.freeze
  replace S := S'
  clear S'
  replace G := G.mono k
  replace B := B.trans k
  replace hr := hr.mono k
  replace hoF := k _ _ hoF
  replace hoT := k _ _ hoT
  replace ho3 := k _ _ ho3
  clear k
  refine lreached_spec (S.gr G) (R.in_ (by (first | lia | omega))) (hr.mono S.base) g (S.atBase ho3) D3 hds3 M3 ?_
  intro dH odH Hm s' hD hD' hdH DH hHm hHl hk
  walk_at "gnew"
  replace B := B.trans k
  replace hoF := k _ _ hoF
  replace hoT := k _ _ hoT
  replace hol1 := k _ _ hol1
  have hoH := hN _ _ hD hD'
  clear hk hN k hD hD'
  have hXH : ∀ c, (mget Xm c).isSome = (mget Hm c).isSome := fun c => by
    rw [Bool.eq_iff_iff, hHm, BX.least gg M2]; exact Clo.least_ext ext3 c
  walk_at "go"
  refine d_sorted S R.handled (S.atBase hoH) DH hdH (by (first | lia | omega)) ?_
  clear S
  intro l2 o2 k2 n2 s r1 r2 r3 S _
  have hnn : n1 = n2 := sorted_eq ((q2.trans (keys_perm DX.nodup DH.nodup hXH)).trans r2.symm) q3 r3
  walk_at "go"
  refine l_eq (IntL.of (S.atBase hol1) q1) (IntL.of (S.atLed (List.mem_cons_self ..)) r1) (by walk_at "room") ?_
  rw [decide_eq_true hnn]
  walk_at "go"
  refine d_eqT fl_opt eqv_opt (S.atBase hoF) DF hdF (S.atBase hoT) DT hdT (by walk_at "room") (fun _ => rfl) ?_
  walk_at "go"
  exact h _ (S.outs B)

end Fl
open PySem PySem.W PyProof.Rows
theorem PySem.Challenge.cw_uf030040_06_holds : PySem.Challenge.rw_uf030040_06.Holds := by
  refine Fl.hd ?_
  k_fill
  intro w s₀ s₁ mg mb G Y fa o pm cd doc dV kV ho hd hcd hD hmg hg args vals as hpre hlay hrd hwl hlo
  have KX := kIn_of Y
  refine Ground.open G ?_
  intro T B D TE TW
  wrow_args hpre hlay hrd hwl hlo
  refine enter_call ?_
  refine codeAny_mono ?_ (fun _ _ g => GoodW.toG g)
  have e := mg_of KX T.g (show nsIn (Fl.kH w.params) mainGlobals (Str.ofString "law") = some (some (.ref 351)) by kernel_rfl)
  have hfa : fa = 351 := by
    have := Option.some.inj (hmg.symm.trans e)
    cases this; rfl
  subst hfa
  refine Fl.law_spec rfl (Fl.Gr.of KX T) ⟨by decide, by decide, rfl⟩ ⟨_, by assumption, by assumption⟩ (by (first | lia | omega)) ?_
  intro s' hk
  obtain ⟨h', tk, rfl, hk'⟩ := hk
  exact ⟨.inl ⟨.bool true, .bool true, [], rfl, fun _ => rfl, .bool _, by kernel_rfl, fun _ => ⟨List.nodup_nil, fun _ h => nomatch h⟩⟩, hk', rfl, hg⟩
