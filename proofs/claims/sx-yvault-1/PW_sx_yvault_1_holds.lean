import PyProof.Rows.All
import PyProof.RaisesMany
import PyProof.CompFree
import PyProof.DefCall
import PyProof.Cells
import PyProof.ForAny
import PyProof.WalksMore
import PyProof.P3Statements
import PyProof.StationsW
import OpenK.KWalk
import PyProof.DictList
import PyProof.DictKinds
import PyProof.IsiH_list
import PyProof.AttrMiss
import KE.KDictOf
import PyProof.ExcBaseAll.Exception
import PyProof.ExcFactsAll.ValueError
import OpenK.KLine
import Wide.All
import OpenK.AllK
import Wide.FinOn
import PySem.Challenge.RW_sx_yvault_1
set_option Elab.async false
set_option genInjectivity false
set_option genSizeOfSpec false

section
open PySem PySem.W PyProof.Rows
set_option Elab.async false
set_option maxRecDepth 100000
set_option maxHeartbeats 0
set_option linter.unusedVariables false
namespace YV

/-- the program's text -/
noncomputable def pBody : List Stmt := PySem.Challenge.pw_sx_yvault_1.main.body
noncomputable def fdef (l : List Stmt) (i : Nat) : Stmt := l.getD i (.Pass ⟨0, 0, 0, 0⟩)
noncomputable def fArgs : Stmt → Arguments
  | .FunctionDef _ a .. => a
  | _ => ⟨[], [], none, [], [], none, []⟩
noncomputable def fBody : Stmt → List Stmt
  | .FunctionDef _ _ b .. => b
  | .ClassDef _ _ _ b .. => b
  | _ => []
noncomputable def fScope : Stmt → Scope
  | .FunctionDef _ _ _ _ _ _ s .. => s
  | .ClassDef _ _ _ _ _ _ s .. => s
  | _ => default
noncomputable def fPos : Stmt → Pos
  | .FunctionDef _ _ _ _ _ _ _ _ _ p => p
  | _ => ⟨0, 0, 0, 0⟩
abbrev strO (x : String) : Str := Str.ofString x
abbrev vStr (x : Str) (t : Tok) : Value := .str x t
abbrev vRef (a : Addr) : Value := .ref a
abbrev vInt (i : Int) (t : Tok) : Value := .int i t
abbrev vTyp (x : String) : Value := .type x
abbrev dEnt := DictEntry.mk
abbrev kHsh := PyData.keyHash

noncomputable def ob11 (P : Params) : Obj := (Obj.mk (vTyp "tuple") none (Data.seq (List.toArray []) 0) (List.toArray []))

noncomputable def ob13 (P : Params) : Obj := (Obj.mk (vTyp "code") none (Data.fields (List.toArray [(vStr (strO "<module>") 182), (vStr (strO "<module>") 183), (vStr (strO "/claim/cut.py") 184), (vInt 1 0), (vInt 0 0), (vInt 0 0), (vInt 0 0), (vInt 0 0), (vRef 11), (Value.bool false), (vInt 181 0), (vRef 12), Value.none, Value.none, Value.none, Value.none, (vInt 185 0), (vInt 1 0), (vStr (strO "/claim/cut.py") 186)])) (List.toArray []))

noncomputable def ob14 (P : Params) : Obj := (Obj.mk (vTyp "frame") none Data.plain (List.toArray [(some (vRef 13)), (some (vRef 3)), (some (vRef 3)), none, (some (vStr (strO "__main__") 164)), none, (some (vRef 0))]))

noncomputable def ob2 (P : Params) : Obj := (Obj.mk Value.none none (Data.dict (List.toArray [(dEnt (kHsh P (strO "type.__subclasses__.Exception.0")) (vStr (strO "type.__subclasses__.Exception.0") 212) (vInt 31 0)), (dEnt (kHsh P (strO "type.__subclasses__.Exception.n")) (vStr (strO "type.__subclasses__.Exception.n") 213) (vInt 4 0)), (dEnt (kHsh P (strO "type.__subclasses__.Exception.1")) (vStr (strO "type.__subclasses__.Exception.1") 232) (vInt 44 0)), (dEnt (kHsh P (strO "type.__subclasses__.Exception.2")) (vStr (strO "type.__subclasses__.Exception.2") 252) (vInt 57 0)), (dEnt (kHsh P (strO "type.__subclasses__.Exception.3")) (vStr (strO "type.__subclasses__.Exception.3") 272) (vInt 70 0))]) 5) (List.toArray []))

noncomputable def obA (P : Params) : List Obj := [
  (boot_o_0 P),
  (boot_o_1 P),
  ob2 P,
  (Obj.mk (vTyp "dict") none (Data.dict (List.toArray [(dEnt (kHsh P (strO "__name__")) (vStr (strO "__name__") 165) (vStr (strO "law_sx_yvault_1") 539)), (dEnt (kHsh P (strO "__doc__")) (vStr (strO "__doc__") 166) Value.none), (dEnt (kHsh P (strO "__package__")) (vStr (strO "__package__") 167) Value.none), (dEnt (kHsh P (strO "__loader__")) (vStr (strO "__loader__") 168) (Value.builtin "__main__.__loader__#opaque")), (dEnt (kHsh P (strO "__spec__")) (vStr (strO "__spec__") 169) Value.none), (dEnt (kHsh P (strO "__annotations__")) (vStr (strO "__annotations__") 170) (vRef 6)), (dEnt (kHsh P (strO "__builtins__")) (vStr (strO "__builtins__") 171) (vRef 4)), (dEnt (kHsh P (strO "__file__")) (vStr (strO "__file__") 173) (vStr (strO "/claim/cut.py") 172)), (dEnt (kHsh P (strO "__cached__")) (vStr (strO "__cached__") 174) Value.none), (dEnt (kHsh P (strO "_wall")) (vStr (strO "_wall") 193) (vRef 21)), (dEnt (kHsh P (strO "PowerLoss")) (vStr (strO "PowerLoss") 215) (vRef 31)), (dEnt (kHsh P (strO "FormatError")) (vStr (strO "FormatError") 235) (vRef 44)), (dEnt (kHsh P (strO "CorruptError")) (vStr (strO "CorruptError") 255) (vRef 57)), (dEnt (kHsh P (strO "FullError")) (vStr (strO "FullError") 275) (vRef 70)), (dEnt (kHsh P (strO "four_bytes")) (vStr (strO "four_bytes") 282) (vRef 80)), (dEnt (kHsh P (strO "from_four_bytes")) (vStr (strO "from_four_bytes") 289) (vRef 87)), (dEnt (kHsh P (strO "sealed")) (vStr (strO "sealed") 296) (vRef 94)), (dEnt (kHsh P (strO "seal_holds")) (vStr (strO "seal_holds") 304) (vRef 101)), (dEnt (kHsh P (strO "encode_slot")) (vStr (strO "encode_slot") 314) (vRef 108)), (dEnt (kHsh P (strO "decode_slot")) (vStr (strO "decode_slot") 322) (vRef 115)), (dEnt (kHsh P (strO "encode_header")) (vStr (strO "encode_header") 329) (vRef 122)), (dEnt (kHsh P (strO "decode_header")) (vStr (strO "decode_header") 338) (vRef 129)), (dEnt (kHsh P (strO "Disk")) (vStr (strO "Disk") 390) (vRef 163)), (dEnt (kHsh P (strO "Vault")) (vStr (strO "Vault") 538) (vRef 282)), (dEnt (kHsh P (strO "_law_bytes")) (vStr (strO "_law_bytes") 549) (vRef 287)), (dEnt (kHsh P (strO "_law_items")) (vStr (strO "_law_items") 561) (vRef 288)), (dEnt (kHsh P (strO "_law_four")) (vStr (strO "_law_four") 571) (vRef 295)), (dEnt (kHsh P (strO "_law_number")) (vStr (strO "_law_number") 578) (vRef 302)), (dEnt (kHsh P (strO "_law_seal")) (vStr (strO "_law_seal") 586) (vRef 309)), (dEnt (kHsh P (strO "_law_damage")) (vStr (strO "_law_damage") 597) (vRef 316)), (dEnt (kHsh P (strO "_law_whole")) (vStr (strO "_law_whole") 604) (vRef 323)), (dEnt (kHsh P (strO "_law_slot_due")) (vStr (strO "_law_slot_due") 611) (vRef 330)), (dEnt (kHsh P (strO "_law_header_due")) (vStr (strO "_law_header_due") 618) (vRef 337)), (dEnt (kHsh P (strO "_law_same")) (vStr (strO "_law_same") 624) (vRef 342)), (dEnt (kHsh P (strO "_law_slot_read")) (vStr (strO "_law_slot_read") 632) (vRef 349)), (dEnt (kHsh P (strO "_law_header_read")) (vStr (strO "_law_header_read") 640) (vRef 356)), (dEnt (kHsh P (strO "_law_store_tells")) (vStr (strO "_law_store_tells") 650) (vRef 363)), (dEnt (kHsh P (strO "_law_staged")) (vStr (strO "_law_staged") 656) (vRef 368)), (dEnt (kHsh P (strO "law")) (vStr (strO "law") 662) (vRef 373))]) 39) (List.toArray [])),
  (boot_o_4 P),
  (boot_o_5 P),
  (boot_o_6 P),
  (boot_o_7 P),
  (boot_o_8 P),
  (boot_o_9 P),
  (boot_o_10 P),
  ob11 P,
  (Obj.mk Value.none none (Data.fields (List.toArray [(vInt 1 0), (vInt 0 0), (vRef 20), (vInt 5 0), (vInt 0 0), (vRef 27), (vInt 7 0), (vInt 0 0), (vRef 40), (vInt 9 0), (vInt 0 0), (vRef 53), (vInt 11 0), (vInt 0 0), (vRef 66), (vInt 13 0), (vInt 0 0), (vRef 79), (vInt 15 0), (vInt 0 0), (vRef 86), (vInt 17 0), (vInt 0 0), (vRef 93), (vInt 19 0), (vInt 0 0), (vRef 100), (vInt 26 0), (vInt 0 0), (vRef 107), (vInt 31 0), (vInt 0 0), (vRef 114), (vInt 44 0), (vInt 0 0), (vRef 121), (vInt 46 0), (vInt 0 0), (vRef 128), (vInt 56 0), (vInt 0 0), (vRef 135), (vInt 76 0), (vInt 0 0), (vRef 173), (vInt 153 0), (vInt 0 0), (vRef 294), (vInt 155 0), (vInt 0 0), (vRef 301), (vInt 157 0), (vInt 0 0), (vRef 308), (vInt 160 0), (vInt 0 0), (vRef 315), (vInt 169 0), (vInt 0 0), (vRef 322), (vInt 173 0), (vInt 0 0), (vRef 329), (vInt 179 0), (vInt 0 0), (vRef 336), (vInt 183 0), (vInt 0 0), (vRef 341), (vInt 187 0), (vInt 0 0), (vRef 348), (vInt 193 0), (vInt 0 0), (vRef 355), (vInt 199 0), (vInt 0 0), (vRef 362), (vInt 208 0), (vInt 0 0), (vRef 367), (vInt 212 0), (vInt 0 0), (vRef 372)])) (List.toArray [])),
  ob13 P,
  ob14 P]

noncomputable def obA0 (P : Params) : List Obj := [
  (boot_o_0 P),
  (boot_o_1 P),
  boot_o_2 P,
  boot_o_3 P,
  (boot_o_4 P),
  (boot_o_5 P),
  (boot_o_6 P),
  (boot_o_7 P),
  (boot_o_8 P),
  (boot_o_9 P),
  (boot_o_10 P),
  ob11 P,
  (Obj.mk Value.none none (Data.fields (List.toArray [])) (List.toArray [])),
  ob13 P,
  ob14 P]

noncomputable def obA1 (P : Params) : List Obj := [
  (boot_o_0 P),
  (boot_o_1 P),
  ob2 P,
  (Obj.mk (vTyp "dict") none (Data.dict (List.toArray [(dEnt (kHsh P (strO "__name__")) (vStr (strO "__name__") 165) (vStr (strO "vault.core") 194)), (dEnt (kHsh P (strO "__doc__")) (vStr (strO "__doc__") 166) Value.none), (dEnt (kHsh P (strO "__package__")) (vStr (strO "__package__") 167) Value.none), (dEnt (kHsh P (strO "__loader__")) (vStr (strO "__loader__") 168) (Value.builtin "__main__.__loader__#opaque")), (dEnt (kHsh P (strO "__spec__")) (vStr (strO "__spec__") 169) Value.none), (dEnt (kHsh P (strO "__annotations__")) (vStr (strO "__annotations__") 170) (vRef 6)), (dEnt (kHsh P (strO "__builtins__")) (vStr (strO "__builtins__") 171) (vRef 4)), (dEnt (kHsh P (strO "__file__")) (vStr (strO "__file__") 173) (vStr (strO "/claim/cut.py") 172)), (dEnt (kHsh P (strO "__cached__")) (vStr (strO "__cached__") 174) Value.none), (dEnt (kHsh P (strO "_wall")) (vStr (strO "_wall") 193) (vRef 21)), (dEnt (kHsh P (strO "PowerLoss")) (vStr (strO "PowerLoss") 215) (vRef 31)), (dEnt (kHsh P (strO "FormatError")) (vStr (strO "FormatError") 235) (vRef 44)), (dEnt (kHsh P (strO "CorruptError")) (vStr (strO "CorruptError") 255) (vRef 57)), (dEnt (kHsh P (strO "FullError")) (vStr (strO "FullError") 275) (vRef 70)), (dEnt (kHsh P (strO "four_bytes")) (vStr (strO "four_bytes") 282) (vRef 80)), (dEnt (kHsh P (strO "from_four_bytes")) (vStr (strO "from_four_bytes") 289) (vRef 87)), (dEnt (kHsh P (strO "sealed")) (vStr (strO "sealed") 296) (vRef 94)), (dEnt (kHsh P (strO "seal_holds")) (vStr (strO "seal_holds") 304) (vRef 101)), (dEnt (kHsh P (strO "encode_slot")) (vStr (strO "encode_slot") 314) (vRef 108)), (dEnt (kHsh P (strO "decode_slot")) (vStr (strO "decode_slot") 322) (vRef 115)), (dEnt (kHsh P (strO "encode_header")) (vStr (strO "encode_header") 329) (vRef 122)), (dEnt (kHsh P (strO "decode_header")) (vStr (strO "decode_header") 338) (vRef 129)), (dEnt (kHsh P (strO "Disk")) (vStr (strO "Disk") 390) (vRef 163))]) 23) (List.toArray [])),
  (boot_o_4 P),
  (boot_o_5 P),
  (boot_o_6 P),
  (boot_o_7 P),
  (boot_o_8 P),
  (boot_o_9 P),
  (boot_o_10 P),
  ob11 P,
  (Obj.mk Value.none none (Data.fields (List.toArray [(vInt 1 0), (vInt 0 0), (vRef 20), (vInt 5 0), (vInt 0 0), (vRef 27), (vInt 7 0), (vInt 0 0), (vRef 40), (vInt 9 0), (vInt 0 0), (vRef 53), (vInt 11 0), (vInt 0 0), (vRef 66), (vInt 13 0), (vInt 0 0), (vRef 79), (vInt 15 0), (vInt 0 0), (vRef 86), (vInt 17 0), (vInt 0 0), (vRef 93), (vInt 19 0), (vInt 0 0), (vRef 100), (vInt 26 0), (vInt 0 0), (vRef 107), (vInt 31 0), (vInt 0 0), (vRef 114), (vInt 44 0), (vInt 0 0), (vRef 121), (vInt 46 0), (vInt 0 0), (vRef 128), (vInt 56 0), (vInt 0 0), (vRef 135)])) (List.toArray [])),
  ob13 P,
  ob14 P]

noncomputable def obA2 (P : Params) : List Obj := [
  (boot_o_0 P),
  (boot_o_1 P),
  ob2 P,
  (Obj.mk (vTyp "dict") none (Data.dict (List.toArray [(dEnt (kHsh P (strO "__name__")) (vStr (strO "__name__") 165) (vStr (strO "vault.core") 194)), (dEnt (kHsh P (strO "__doc__")) (vStr (strO "__doc__") 166) Value.none), (dEnt (kHsh P (strO "__package__")) (vStr (strO "__package__") 167) Value.none), (dEnt (kHsh P (strO "__loader__")) (vStr (strO "__loader__") 168) (Value.builtin "__main__.__loader__#opaque")), (dEnt (kHsh P (strO "__spec__")) (vStr (strO "__spec__") 169) Value.none), (dEnt (kHsh P (strO "__annotations__")) (vStr (strO "__annotations__") 170) (vRef 6)), (dEnt (kHsh P (strO "__builtins__")) (vStr (strO "__builtins__") 171) (vRef 4)), (dEnt (kHsh P (strO "__file__")) (vStr (strO "__file__") 173) (vStr (strO "/claim/cut.py") 172)), (dEnt (kHsh P (strO "__cached__")) (vStr (strO "__cached__") 174) Value.none), (dEnt (kHsh P (strO "_wall")) (vStr (strO "_wall") 193) (vRef 21)), (dEnt (kHsh P (strO "PowerLoss")) (vStr (strO "PowerLoss") 215) (vRef 31)), (dEnt (kHsh P (strO "FormatError")) (vStr (strO "FormatError") 235) (vRef 44)), (dEnt (kHsh P (strO "CorruptError")) (vStr (strO "CorruptError") 255) (vRef 57)), (dEnt (kHsh P (strO "FullError")) (vStr (strO "FullError") 275) (vRef 70)), (dEnt (kHsh P (strO "four_bytes")) (vStr (strO "four_bytes") 282) (vRef 80)), (dEnt (kHsh P (strO "from_four_bytes")) (vStr (strO "from_four_bytes") 289) (vRef 87)), (dEnt (kHsh P (strO "sealed")) (vStr (strO "sealed") 296) (vRef 94)), (dEnt (kHsh P (strO "seal_holds")) (vStr (strO "seal_holds") 304) (vRef 101)), (dEnt (kHsh P (strO "encode_slot")) (vStr (strO "encode_slot") 314) (vRef 108)), (dEnt (kHsh P (strO "decode_slot")) (vStr (strO "decode_slot") 322) (vRef 115)), (dEnt (kHsh P (strO "encode_header")) (vStr (strO "encode_header") 329) (vRef 122)), (dEnt (kHsh P (strO "decode_header")) (vStr (strO "decode_header") 338) (vRef 129)), (dEnt (kHsh P (strO "Disk")) (vStr (strO "Disk") 390) (vRef 163)), (dEnt (kHsh P (strO "Vault")) (vStr (strO "Vault") 538) (vRef 282))]) 24) (List.toArray [])),
  (boot_o_4 P),
  (boot_o_5 P),
  (boot_o_6 P),
  (boot_o_7 P),
  (boot_o_8 P),
  (boot_o_9 P),
  (boot_o_10 P),
  ob11 P,
  (Obj.mk Value.none none (Data.fields (List.toArray [(vInt 1 0), (vInt 0 0), (vRef 20), (vInt 5 0), (vInt 0 0), (vRef 27), (vInt 7 0), (vInt 0 0), (vRef 40), (vInt 9 0), (vInt 0 0), (vRef 53), (vInt 11 0), (vInt 0 0), (vRef 66), (vInt 13 0), (vInt 0 0), (vRef 79), (vInt 15 0), (vInt 0 0), (vRef 86), (vInt 17 0), (vInt 0 0), (vRef 93), (vInt 19 0), (vInt 0 0), (vRef 100), (vInt 26 0), (vInt 0 0), (vRef 107), (vInt 31 0), (vInt 0 0), (vRef 114), (vInt 44 0), (vInt 0 0), (vRef 121), (vInt 46 0), (vInt 0 0), (vRef 128), (vInt 56 0), (vInt 0 0), (vRef 135), (vInt 76 0), (vInt 0 0), (vRef 173)])) (List.toArray [])),
  ob13 P,
  ob14 P]

noncomputable def obAm (P : Params) : List Obj := [
  (boot_o_0 P),
  (boot_o_1 P),
  ob2 P,
  (Obj.mk (vTyp "dict") none (Data.dict (List.toArray [(dEnt (kHsh P (strO "__name__")) (vStr (strO "__name__") 165) (vStr (strO "vault.core") 194)), (dEnt (kHsh P (strO "__doc__")) (vStr (strO "__doc__") 166) Value.none), (dEnt (kHsh P (strO "__package__")) (vStr (strO "__package__") 167) Value.none), (dEnt (kHsh P (strO "__loader__")) (vStr (strO "__loader__") 168) (Value.builtin "__main__.__loader__#opaque")), (dEnt (kHsh P (strO "__spec__")) (vStr (strO "__spec__") 169) Value.none), (dEnt (kHsh P (strO "__annotations__")) (vStr (strO "__annotations__") 170) (vRef 6)), (dEnt (kHsh P (strO "__builtins__")) (vStr (strO "__builtins__") 171) (vRef 4)), (dEnt (kHsh P (strO "__file__")) (vStr (strO "__file__") 173) (vStr (strO "/claim/cut.py") 172)), (dEnt (kHsh P (strO "__cached__")) (vStr (strO "__cached__") 174) Value.none), (dEnt (kHsh P (strO "_wall")) (vStr (strO "_wall") 193) (vRef 21)), (dEnt (kHsh P (strO "PowerLoss")) (vStr (strO "PowerLoss") 215) (vRef 31)), (dEnt (kHsh P (strO "FormatError")) (vStr (strO "FormatError") 235) (vRef 44)), (dEnt (kHsh P (strO "CorruptError")) (vStr (strO "CorruptError") 255) (vRef 57)), (dEnt (kHsh P (strO "FullError")) (vStr (strO "FullError") 275) (vRef 70)), (dEnt (kHsh P (strO "four_bytes")) (vStr (strO "four_bytes") 282) (vRef 80)), (dEnt (kHsh P (strO "from_four_bytes")) (vStr (strO "from_four_bytes") 289) (vRef 87)), (dEnt (kHsh P (strO "sealed")) (vStr (strO "sealed") 296) (vRef 94)), (dEnt (kHsh P (strO "seal_holds")) (vStr (strO "seal_holds") 304) (vRef 101)), (dEnt (kHsh P (strO "encode_slot")) (vStr (strO "encode_slot") 314) (vRef 108)), (dEnt (kHsh P (strO "decode_slot")) (vStr (strO "decode_slot") 322) (vRef 115))]) 20) (List.toArray [])),
  (boot_o_4 P),
  (boot_o_5 P),
  (boot_o_6 P),
  (boot_o_7 P),
  (boot_o_8 P),
  (boot_o_9 P),
  (boot_o_10 P),
  ob11 P,
  (Obj.mk Value.none none (Data.fields (List.toArray [(vInt 1 0), (vInt 0 0), (vRef 20), (vInt 5 0), (vInt 0 0), (vRef 27), (vInt 7 0), (vInt 0 0), (vRef 40), (vInt 9 0), (vInt 0 0), (vRef 53), (vInt 11 0), (vInt 0 0), (vRef 66), (vInt 13 0), (vInt 0 0), (vRef 79), (vInt 15 0), (vInt 0 0), (vRef 86), (vInt 17 0), (vInt 0 0), (vRef 93), (vInt 19 0), (vInt 0 0), (vRef 100), (vInt 26 0), (vInt 0 0), (vRef 107), (vInt 31 0), (vInt 0 0), (vRef 114)])) (List.toArray [])),
  ob13 P,
  ob14 P]

noncomputable def obMa (P : Params) : List Obj := [
  (Obj.mk (vTyp "tuple") none (Data.seq (List.toArray []) 0) (List.toArray [])),
  (Obj.mk Value.none none (Data.fields (List.toArray [])) (List.toArray [])),
  (Obj.mk (vTyp "tuple") none (Data.seq (List.toArray [(vStr (strO "k") 190)]) 0) (List.toArray [])),
  (Obj.mk (vTyp "tuple") none (Data.seq (List.toArray []) 0) (List.toArray [])),
  (Obj.mk Value.none none (Data.func (FuncData.mk (strO "_wall") (strO "_wall") (fArgs (fdef pBody 0)) (FuncBody.stmts (fBody (fdef pBody 0))) (fScope (fdef pBody 0)) 0 [] Value.none Value.none Value.none Value.none none Value.none Value.none 0)) (List.toArray [])),
  (Obj.mk (vTyp "code") none (Data.fields (List.toArray [(vStr (strO "_wall") 187), (vStr (strO "_wall") 188), (vStr (strO "/claim/cut.py") 189), (vInt 1 0), (vInt 1 0), (vInt 0 0), (vInt 0 0), (vInt 3 0), (vRef 15), (Value.bool true), (vInt 181 0), (vRef 16), Value.none, (vRef 17), (vRef 18), (vRef 19), (vInt 191 0), (vInt 1 0), (vStr (strO "/claim/cut.py") 192)])) (List.toArray [])),
  (Obj.mk (vTyp "function") none (Data.func (FuncData.mk (strO "_wall") (strO "_wall") (fArgs (fdef pBody 0)) (FuncBody.stmts (fBody (fdef pBody 0))) (fScope (fdef pBody 0)) 3 [] Value.none Value.none Value.none (vStr (strO "__main__") 164) none (vRef 20) Value.none 0)) (List.toArray [])),
  (Obj.mk (vTyp "tuple") none (Data.seq (List.toArray [(vTyp "Exception")]) 0) (List.toArray [])),
  (Obj.mk (vTyp "builtin_function_or_method") none (Data.fields (List.toArray [(Value.builtin "type.__prepare__"), (vTyp "type")])) (List.toArray [])),
  (Obj.mk (vTyp "dict") none (Data.dict (List.toArray [(dEnt (kHsh P (strO "__module__")) (vStr (strO "__module__") 203) (vStr (strO "vault.core") 194)), (dEnt (kHsh P (strO "__qualname__")) (vStr (strO "__qualname__") 205) (vStr (strO "PowerLoss") 204)), (dEnt (kHsh P (strO "__firstlineno__")) (vStr (strO "__firstlineno__") 207) (vInt 5 206)), (dEnt (kHsh P (strO "__static_attributes__")) (vStr (strO "__static_attributes__") 208) (vRef 29))]) 4) (List.toArray [])),
  (Obj.mk (vTyp "tuple") none (Data.seq (List.toArray []) 0) (List.toArray [])),
  (Obj.mk Value.none none (Data.fields (List.toArray [])) (List.toArray [])),
  (Obj.mk (vTyp "code") none (Data.fields (List.toArray [(vStr (strO "PowerLoss") 198), (vStr (strO "PowerLoss") 199), (vStr (strO "/claim/cut.py") 200), (vInt 5 0), (vInt 0 0), (vInt 0 0), (vInt 0 0), (vInt 0 0), (vRef 25), (Value.bool false), (vInt 181 0), (vRef 26), Value.none, Value.none, Value.none, Value.none, (vInt 201 0), (vInt 5 0), (vStr (strO "/claim/cut.py") 202)])) (List.toArray [])),
  (Obj.mk (vTyp "frame") none Data.plain (List.toArray [(some (vRef 27)), (some (vRef 3)), (some (vRef 24)), none, (some (vStr (strO "vault.core") 194)), none, (some (vRef 0))])),
  (Obj.mk (vTyp "tuple") none (Data.seq (List.toArray []) 0) (List.toArray [])),
  (Obj.mk (vTyp "dict") none (Data.dict (List.toArray [(dEnt (kHsh P (strO "__module__")) (vStr (strO "__module__") 203) (vStr (strO "vault.core") 194)), (dEnt (kHsh P (strO "__firstlineno__")) (vStr (strO "__firstlineno__") 207) (vInt 5 206)), (dEnt (kHsh P (strO "__static_attributes__")) (vStr (strO "__static_attributes__") 208) (vRef 29)), (dEnt (kHsh P (strO "__weakref__")) (vStr (strO "__weakref__") 210) (vRef 32)), (dEnt (kHsh P (strO "__doc__")) (vStr (strO "__doc__") 211) Value.none)]) 3) (List.toArray [])),
  (Obj.mk (vTyp "type") none (Data.cls (ClassData.mk (strO "PowerLoss") [(vTyp "Exception")] [(vRef 31), (vTyp "Exception"), (vTyp "BaseException"), (vTyp "object")] 30 (strO "PowerLoss") true [] [] false none false)) (List.toArray [(some (vRef 22)), none, (some (vStr (strO "PowerLoss") 196)), (some (vStr (strO "PowerLoss") 204)), (some (Value.builtin "Exception.__new__")), (some (Value.bool true))])),
  (Obj.mk (vTyp "getset_descriptor") none (Data.fields (List.toArray [(vStr (strO "__weakref__") 209), (vRef 31), (Value.builtin "ExceptionGroup.__weakref__"), Value.none])) (List.toArray [])),
  (Obj.mk (vTyp "super") none (Data.fields (List.toArray [(vRef 31), (vRef 31), (vRef 31)])) (List.toArray [])),
  (Obj.mk (vTyp "builtin_function_or_method") none (Data.fields (List.toArray [(Value.builtin "object.__init_subclass__"), (vRef 31)])) (List.toArray [])),
  (Obj.mk (vTyp "tuple") none (Data.seq (List.toArray [(vTyp "Exception")]) 0) (List.toArray [])),
  (Obj.mk (vTyp "builtin_function_or_method") none (Data.fields (List.toArray [(Value.builtin "type.__prepare__"), (vTyp "type")])) (List.toArray [])),
  (Obj.mk (vTyp "dict") none (Data.dict (List.toArray [(dEnt (kHsh P (strO "__module__")) (vStr (strO "__module__") 223) (vStr (strO "vault.core") 194)), (dEnt (kHsh P (strO "__qualname__")) (vStr (strO "__qualname__") 225) (vStr (strO "FormatError") 224)), (dEnt (kHsh P (strO "__firstlineno__")) (vStr (strO "__firstlineno__") 227) (vInt 7 226)), (dEnt (kHsh P (strO "__static_attributes__")) (vStr (strO "__static_attributes__") 228) (vRef 42))]) 4) (List.toArray [])),
  (Obj.mk (vTyp "tuple") none (Data.seq (List.toArray []) 0) (List.toArray [])),
  (Obj.mk Value.none none (Data.fields (List.toArray [])) (List.toArray [])),
  (Obj.mk (vTyp "code") none (Data.fields (List.toArray [(vStr (strO "FormatError") 218), (vStr (strO "FormatError") 219), (vStr (strO "/claim/cut.py") 220), (vInt 7 0), (vInt 0 0), (vInt 0 0), (vInt 0 0), (vInt 0 0), (vRef 38), (Value.bool false), (vInt 181 0), (vRef 39), Value.none, Value.none, Value.none, Value.none, (vInt 221 0), (vInt 7 0), (vStr (strO "/claim/cut.py") 222)])) (List.toArray [])),
  (Obj.mk (vTyp "frame") none Data.plain (List.toArray [(some (vRef 40)), (some (vRef 3)), (some (vRef 37)), none, (some (vStr (strO "vault.core") 194)), none, (some (vRef 0))])),
  (Obj.mk (vTyp "tuple") none (Data.seq (List.toArray []) 0) (List.toArray [])),
  (Obj.mk (vTyp "dict") none (Data.dict (List.toArray [(dEnt (kHsh P (strO "__module__")) (vStr (strO "__module__") 223) (vStr (strO "vault.core") 194)), (dEnt (kHsh P (strO "__firstlineno__")) (vStr (strO "__firstlineno__") 227) (vInt 7 226)), (dEnt (kHsh P (strO "__static_attributes__")) (vStr (strO "__static_attributes__") 228) (vRef 42)), (dEnt (kHsh P (strO "__weakref__")) (vStr (strO "__weakref__") 230) (vRef 45)), (dEnt (kHsh P (strO "__doc__")) (vStr (strO "__doc__") 231) Value.none)]) 3) (List.toArray [])),
  (Obj.mk (vTyp "type") none (Data.cls (ClassData.mk (strO "FormatError") [(vTyp "Exception")] [(vRef 44), (vTyp "Exception"), (vTyp "BaseException"), (vTyp "object")] 43 (strO "FormatError") true [] [] false none false)) (List.toArray [(some (vRef 35)), none, (some (vStr (strO "FormatError") 216)), (some (vStr (strO "FormatError") 224)), (some (Value.builtin "Exception.__new__")), (some (Value.bool true))])),
  (Obj.mk (vTyp "getset_descriptor") none (Data.fields (List.toArray [(vStr (strO "__weakref__") 229), (vRef 44), (Value.builtin "ExceptionGroup.__weakref__"), Value.none])) (List.toArray [])),
  (Obj.mk (vTyp "super") none (Data.fields (List.toArray [(vRef 44), (vRef 44), (vRef 44)])) (List.toArray [])),
  (Obj.mk (vTyp "builtin_function_or_method") none (Data.fields (List.toArray [(Value.builtin "object.__init_subclass__"), (vRef 44)])) (List.toArray [])),
  (Obj.mk (vTyp "tuple") none (Data.seq (List.toArray [(vTyp "Exception")]) 0) (List.toArray [])),
  (Obj.mk (vTyp "builtin_function_or_method") none (Data.fields (List.toArray [(Value.builtin "type.__prepare__"), (vTyp "type")])) (List.toArray [])),
  (Obj.mk (vTyp "dict") none (Data.dict (List.toArray [(dEnt (kHsh P (strO "__module__")) (vStr (strO "__module__") 243) (vStr (strO "vault.core") 194)), (dEnt (kHsh P (strO "__qualname__")) (vStr (strO "__qualname__") 245) (vStr (strO "CorruptError") 244)), (dEnt (kHsh P (strO "__firstlineno__")) (vStr (strO "__firstlineno__") 247) (vInt 9 246)), (dEnt (kHsh P (strO "__static_attributes__")) (vStr (strO "__static_attributes__") 248) (vRef 55))]) 4) (List.toArray [])),
  (Obj.mk (vTyp "tuple") none (Data.seq (List.toArray []) 0) (List.toArray [])),
  (Obj.mk Value.none none (Data.fields (List.toArray [])) (List.toArray [])),
  (Obj.mk (vTyp "code") none (Data.fields (List.toArray [(vStr (strO "CorruptError") 238), (vStr (strO "CorruptError") 239), (vStr (strO "/claim/cut.py") 240), (vInt 9 0), (vInt 0 0), (vInt 0 0), (vInt 0 0), (vInt 0 0), (vRef 51), (Value.bool false), (vInt 181 0), (vRef 52), Value.none, Value.none, Value.none, Value.none, (vInt 241 0), (vInt 9 0), (vStr (strO "/claim/cut.py") 242)])) (List.toArray [])),
  (Obj.mk (vTyp "frame") none Data.plain (List.toArray [(some (vRef 53)), (some (vRef 3)), (some (vRef 50)), none, (some (vStr (strO "vault.core") 194)), none, (some (vRef 0))]))]

noncomputable def obMb (P : Params) : List Obj := [
  (Obj.mk (vTyp "tuple") none (Data.seq (List.toArray []) 0) (List.toArray [])),
  (Obj.mk (vTyp "dict") none (Data.dict (List.toArray [(dEnt (kHsh P (strO "__module__")) (vStr (strO "__module__") 243) (vStr (strO "vault.core") 194)), (dEnt (kHsh P (strO "__firstlineno__")) (vStr (strO "__firstlineno__") 247) (vInt 9 246)), (dEnt (kHsh P (strO "__static_attributes__")) (vStr (strO "__static_attributes__") 248) (vRef 55)), (dEnt (kHsh P (strO "__weakref__")) (vStr (strO "__weakref__") 250) (vRef 58)), (dEnt (kHsh P (strO "__doc__")) (vStr (strO "__doc__") 251) Value.none)]) 3) (List.toArray [])),
  (Obj.mk (vTyp "type") none (Data.cls (ClassData.mk (strO "CorruptError") [(vTyp "Exception")] [(vRef 57), (vTyp "Exception"), (vTyp "BaseException"), (vTyp "object")] 56 (strO "CorruptError") true [] [] false none false)) (List.toArray [(some (vRef 48)), none, (some (vStr (strO "CorruptError") 236)), (some (vStr (strO "CorruptError") 244)), (some (Value.builtin "Exception.__new__")), (some (Value.bool true))])),
  (Obj.mk (vTyp "getset_descriptor") none (Data.fields (List.toArray [(vStr (strO "__weakref__") 249), (vRef 57), (Value.builtin "ExceptionGroup.__weakref__"), Value.none])) (List.toArray [])),
  (Obj.mk (vTyp "super") none (Data.fields (List.toArray [(vRef 57), (vRef 57), (vRef 57)])) (List.toArray [])),
  (Obj.mk (vTyp "builtin_function_or_method") none (Data.fields (List.toArray [(Value.builtin "object.__init_subclass__"), (vRef 57)])) (List.toArray [])),
  (Obj.mk (vTyp "tuple") none (Data.seq (List.toArray [(vTyp "Exception")]) 0) (List.toArray [])),
  (Obj.mk (vTyp "builtin_function_or_method") none (Data.fields (List.toArray [(Value.builtin "type.__prepare__"), (vTyp "type")])) (List.toArray [])),
  (Obj.mk (vTyp "dict") none (Data.dict (List.toArray [(dEnt (kHsh P (strO "__module__")) (vStr (strO "__module__") 263) (vStr (strO "vault.core") 194)), (dEnt (kHsh P (strO "__qualname__")) (vStr (strO "__qualname__") 265) (vStr (strO "FullError") 264)), (dEnt (kHsh P (strO "__firstlineno__")) (vStr (strO "__firstlineno__") 267) (vInt 11 266)), (dEnt (kHsh P (strO "__static_attributes__")) (vStr (strO "__static_attributes__") 268) (vRef 68))]) 4) (List.toArray [])),
  (Obj.mk (vTyp "tuple") none (Data.seq (List.toArray []) 0) (List.toArray [])),
  (Obj.mk Value.none none (Data.fields (List.toArray [])) (List.toArray [])),
  (Obj.mk (vTyp "code") none (Data.fields (List.toArray [(vStr (strO "FullError") 258), (vStr (strO "FullError") 259), (vStr (strO "/claim/cut.py") 260), (vInt 11 0), (vInt 0 0), (vInt 0 0), (vInt 0 0), (vInt 0 0), (vRef 64), (Value.bool false), (vInt 181 0), (vRef 65), Value.none, Value.none, Value.none, Value.none, (vInt 261 0), (vInt 11 0), (vStr (strO "/claim/cut.py") 262)])) (List.toArray [])),
  (Obj.mk (vTyp "frame") none Data.plain (List.toArray [(some (vRef 66)), (some (vRef 3)), (some (vRef 63)), none, (some (vStr (strO "vault.core") 194)), none, (some (vRef 0))])),
  (Obj.mk (vTyp "tuple") none (Data.seq (List.toArray []) 0) (List.toArray [])),
  (Obj.mk (vTyp "dict") none (Data.dict (List.toArray [(dEnt (kHsh P (strO "__module__")) (vStr (strO "__module__") 263) (vStr (strO "vault.core") 194)), (dEnt (kHsh P (strO "__firstlineno__")) (vStr (strO "__firstlineno__") 267) (vInt 11 266)), (dEnt (kHsh P (strO "__static_attributes__")) (vStr (strO "__static_attributes__") 268) (vRef 68)), (dEnt (kHsh P (strO "__weakref__")) (vStr (strO "__weakref__") 270) (vRef 71)), (dEnt (kHsh P (strO "__doc__")) (vStr (strO "__doc__") 271) Value.none)]) 3) (List.toArray [])),
  (Obj.mk (vTyp "type") none (Data.cls (ClassData.mk (strO "FullError") [(vTyp "Exception")] [(vRef 70), (vTyp "Exception"), (vTyp "BaseException"), (vTyp "object")] 69 (strO "FullError") true [] [] false none false)) (List.toArray [(some (vRef 61)), none, (some (vStr (strO "FullError") 256)), (some (vStr (strO "FullError") 264)), (some (Value.builtin "Exception.__new__")), (some (Value.bool true))])),
  (Obj.mk (vTyp "getset_descriptor") none (Data.fields (List.toArray [(vStr (strO "__weakref__") 269), (vRef 70), (Value.builtin "ExceptionGroup.__weakref__"), Value.none])) (List.toArray [])),
  (Obj.mk (vTyp "super") none (Data.fields (List.toArray [(vRef 70), (vRef 70), (vRef 70)])) (List.toArray [])),
  (Obj.mk (vTyp "builtin_function_or_method") none (Data.fields (List.toArray [(Value.builtin "object.__init_subclass__"), (vRef 70)])) (List.toArray [])),
  (Obj.mk (vTyp "tuple") none (Data.seq (List.toArray []) 0) (List.toArray [])),
  (Obj.mk Value.none none (Data.fields (List.toArray [])) (List.toArray [])),
  (Obj.mk (vTyp "tuple") none (Data.seq (List.toArray [(vStr (strO "n") 279)]) 0) (List.toArray [])),
  (Obj.mk (vTyp "tuple") none (Data.seq (List.toArray []) 0) (List.toArray [])),
  (Obj.mk Value.none none (Data.func (FuncData.mk (strO "four_bytes") (strO "four_bytes") (fArgs (fdef pBody 6)) (FuncBody.stmts (fBody (fdef pBody 6))) (fScope (fdef pBody 6)) 0 [] Value.none Value.none Value.none Value.none none Value.none Value.none 0)) (List.toArray [])),
  (Obj.mk (vTyp "code") none (Data.fields (List.toArray [(vStr (strO "four_bytes") 276), (vStr (strO "four_bytes") 277), (vStr (strO "/claim/cut.py") 278), (vInt 13 0), (vInt 1 0), (vInt 0 0), (vInt 0 0), (vInt 3 0), (vRef 74), (Value.bool true), (vInt 181 0), (vRef 75), Value.none, (vRef 76), (vRef 77), (vRef 78), (vInt 280 0), (vInt 13 0), (vStr (strO "/claim/cut.py") 281)])) (List.toArray [])),
  (Obj.mk (vTyp "function") none (Data.func (FuncData.mk (strO "four_bytes") (strO "four_bytes") (fArgs (fdef pBody 6)) (FuncBody.stmts (fBody (fdef pBody 6))) (fScope (fdef pBody 6)) 3 [] Value.none Value.none Value.none (vStr (strO "vault.core") 194) none (vRef 79) Value.none 0)) (List.toArray [])),
  (Obj.mk (vTyp "tuple") none (Data.seq (List.toArray []) 0) (List.toArray [])),
  (Obj.mk Value.none none (Data.fields (List.toArray [])) (List.toArray [])),
  (Obj.mk (vTyp "tuple") none (Data.seq (List.toArray [(vStr (strO "b") 286)]) 0) (List.toArray [])),
  (Obj.mk (vTyp "tuple") none (Data.seq (List.toArray []) 0) (List.toArray [])),
  (Obj.mk Value.none none (Data.func (FuncData.mk (strO "from_four_bytes") (strO "from_four_bytes") (fArgs (fdef pBody 7)) (FuncBody.stmts (fBody (fdef pBody 7))) (fScope (fdef pBody 7)) 0 [] Value.none Value.none Value.none Value.none none Value.none Value.none 0)) (List.toArray [])),
  (Obj.mk (vTyp "code") none (Data.fields (List.toArray [(vStr (strO "from_four_bytes") 283), (vStr (strO "from_four_bytes") 284), (vStr (strO "/claim/cut.py") 285), (vInt 15 0), (vInt 1 0), (vInt 0 0), (vInt 0 0), (vInt 3 0), (vRef 81), (Value.bool true), (vInt 181 0), (vRef 82), Value.none, (vRef 83), (vRef 84), (vRef 85), (vInt 287 0), (vInt 15 0), (vStr (strO "/claim/cut.py") 288)])) (List.toArray [])),
  (Obj.mk (vTyp "function") none (Data.func (FuncData.mk (strO "from_four_bytes") (strO "from_four_bytes") (fArgs (fdef pBody 7)) (FuncBody.stmts (fBody (fdef pBody 7))) (fScope (fdef pBody 7)) 3 [] Value.none Value.none Value.none (vStr (strO "vault.core") 194) none (vRef 86) Value.none 0)) (List.toArray [])),
  (Obj.mk (vTyp "tuple") none (Data.seq (List.toArray []) 0) (List.toArray [])),
  (Obj.mk Value.none none (Data.fields (List.toArray [])) (List.toArray [])),
  (Obj.mk (vTyp "tuple") none (Data.seq (List.toArray [(vStr (strO "body") 293)]) 0) (List.toArray [])),
  (Obj.mk (vTyp "tuple") none (Data.seq (List.toArray []) 0) (List.toArray [])),
  (Obj.mk Value.none none (Data.func (FuncData.mk (strO "sealed") (strO "sealed") (fArgs (fdef pBody 8)) (FuncBody.stmts (fBody (fdef pBody 8))) (fScope (fdef pBody 8)) 0 [] Value.none Value.none Value.none Value.none none Value.none Value.none 0)) (List.toArray [])),
  (Obj.mk (vTyp "code") none (Data.fields (List.toArray [(vStr (strO "sealed") 290), (vStr (strO "sealed") 291), (vStr (strO "/claim/cut.py") 292), (vInt 17 0), (vInt 1 0), (vInt 0 0), (vInt 0 0), (vInt 3 0), (vRef 88), (Value.bool true), (vInt 181 0), (vRef 89), Value.none, (vRef 90), (vRef 91), (vRef 92), (vInt 294 0), (vInt 17 0), (vStr (strO "/claim/cut.py") 295)])) (List.toArray [])),
  (Obj.mk (vTyp "function") none (Data.func (FuncData.mk (strO "sealed") (strO "sealed") (fArgs (fdef pBody 8)) (FuncBody.stmts (fBody (fdef pBody 8))) (fScope (fdef pBody 8)) 3 [] Value.none Value.none Value.none (vStr (strO "vault.core") 194) none (vRef 93) Value.none 0)) (List.toArray []))]

noncomputable def obMc (P : Params) : List Obj := [
  (Obj.mk (vTyp "tuple") none (Data.seq (List.toArray []) 0) (List.toArray [])),
  (Obj.mk Value.none none (Data.fields (List.toArray [])) (List.toArray [])),
  (Obj.mk (vTyp "tuple") none (Data.seq (List.toArray [(vStr (strO "block") 300), (vStr (strO "x") 301)]) 0) (List.toArray [])),
  (Obj.mk (vTyp "tuple") none (Data.seq (List.toArray []) 0) (List.toArray [])),
  (Obj.mk Value.none none (Data.func (FuncData.mk (strO "seal_holds") (strO "seal_holds") (fArgs (fdef pBody 9)) (FuncBody.stmts (fBody (fdef pBody 9))) (fScope (fdef pBody 9)) 0 [] Value.none Value.none Value.none Value.none none Value.none Value.none 0)) (List.toArray [])),
  (Obj.mk (vTyp "code") none (Data.fields (List.toArray [(vStr (strO "seal_holds") 297), (vStr (strO "seal_holds") 298), (vStr (strO "/claim/cut.py") 299), (vInt 19 0), (vInt 1 0), (vInt 0 0), (vInt 0 0), (vInt 3 0), (vRef 95), (Value.bool true), (vInt 181 0), (vRef 96), Value.none, (vRef 97), (vRef 98), (vRef 99), (vInt 302 0), (vInt 19 0), (vStr (strO "/claim/cut.py") 303)])) (List.toArray [])),
  (Obj.mk (vTyp "function") none (Data.func (FuncData.mk (strO "seal_holds") (strO "seal_holds") (fArgs (fdef pBody 9)) (FuncBody.stmts (fBody (fdef pBody 9))) (fScope (fdef pBody 9)) 3 [] Value.none Value.none Value.none (vStr (strO "vault.core") 194) none (vRef 100) Value.none 0)) (List.toArray [])),
  (Obj.mk (vTyp "tuple") none (Data.seq (List.toArray []) 0) (List.toArray [])),
  (Obj.mk Value.none none (Data.fields (List.toArray [])) (List.toArray [])),
  (Obj.mk (vTyp "tuple") none (Data.seq (List.toArray [(vStr (strO "used") 308), (vStr (strO "key") 309), (vStr (strO "value") 310), (vStr (strO "flag") 311)]) 0) (List.toArray [])),
  (Obj.mk (vTyp "tuple") none (Data.seq (List.toArray []) 0) (List.toArray [])),
  (Obj.mk Value.none none (Data.func (FuncData.mk (strO "encode_slot") (strO "encode_slot") (fArgs (fdef pBody 10)) (FuncBody.stmts (fBody (fdef pBody 10))) (fScope (fdef pBody 10)) 0 [] Value.none Value.none Value.none Value.none none Value.none Value.none 0)) (List.toArray [])),
  (Obj.mk (vTyp "code") none (Data.fields (List.toArray [(vStr (strO "encode_slot") 305), (vStr (strO "encode_slot") 306), (vStr (strO "/claim/cut.py") 307), (vInt 26 0), (vInt 3 0), (vInt 0 0), (vInt 0 0), (vInt 3 0), (vRef 102), (Value.bool true), (vInt 181 0), (vRef 103), Value.none, (vRef 104), (vRef 105), (vRef 106), (vInt 312 0), (vInt 26 0), (vStr (strO "/claim/cut.py") 313)])) (List.toArray [])),
  (Obj.mk (vTyp "function") none (Data.func (FuncData.mk (strO "encode_slot") (strO "encode_slot") (fArgs (fdef pBody 10)) (FuncBody.stmts (fBody (fdef pBody 10))) (fScope (fdef pBody 10)) 3 [] Value.none Value.none Value.none (vStr (strO "vault.core") 194) none (vRef 107) Value.none 0)) (List.toArray [])),
  (Obj.mk (vTyp "tuple") none (Data.seq (List.toArray []) 0) (List.toArray [])),
  (Obj.mk Value.none none (Data.fields (List.toArray [])) (List.toArray [])),
  (Obj.mk (vTyp "tuple") none (Data.seq (List.toArray [(vStr (strO "block") 318), (vStr (strO "x") 319)]) 0) (List.toArray [])),
  (Obj.mk (vTyp "tuple") none (Data.seq (List.toArray []) 0) (List.toArray [])),
  (Obj.mk Value.none none (Data.func (FuncData.mk (strO "decode_slot") (strO "decode_slot") (fArgs (fdef pBody 11)) (FuncBody.stmts (fBody (fdef pBody 11))) (fScope (fdef pBody 11)) 0 [] Value.none Value.none Value.none Value.none none Value.none Value.none 0)) (List.toArray [])),
  (Obj.mk (vTyp "code") none (Data.fields (List.toArray [(vStr (strO "decode_slot") 315), (vStr (strO "decode_slot") 316), (vStr (strO "/claim/cut.py") 317), (vInt 31 0), (vInt 1 0), (vInt 0 0), (vInt 0 0), (vInt 3 0), (vRef 109), (Value.bool true), (vInt 181 0), (vRef 110), Value.none, (vRef 111), (vRef 112), (vRef 113), (vInt 320 0), (vInt 31 0), (vStr (strO "/claim/cut.py") 321)])) (List.toArray [])),
  (Obj.mk (vTyp "function") none (Data.func (FuncData.mk (strO "decode_slot") (strO "decode_slot") (fArgs (fdef pBody 11)) (FuncBody.stmts (fBody (fdef pBody 11))) (fScope (fdef pBody 11)) 3 [] Value.none Value.none Value.none (vStr (strO "vault.core") 194) none (vRef 114) Value.none 0)) (List.toArray []))]

noncomputable def obM (P : Params) : List Obj := obMa P ++ (obMb P ++ (obMc P))

noncomputable def obNa (P : Params) : List Obj := [
  (Obj.mk (vTyp "tuple") none (Data.seq (List.toArray []) 0) (List.toArray [])),
  (Obj.mk Value.none none (Data.fields (List.toArray [])) (List.toArray [])),
  (Obj.mk (vTyp "tuple") none (Data.seq (List.toArray [(vStr (strO "targets") 326)]) 0) (List.toArray [])),
  (Obj.mk (vTyp "tuple") none (Data.seq (List.toArray []) 0) (List.toArray [])),
  (Obj.mk Value.none none (Data.func (FuncData.mk (strO "encode_header") (strO "encode_header") (fArgs (fdef pBody 12)) (FuncBody.stmts (fBody (fdef pBody 12))) (fScope (fdef pBody 12)) 0 [] Value.none Value.none Value.none Value.none none Value.none Value.none 0)) (List.toArray [])),
  (Obj.mk (vTyp "code") none (Data.fields (List.toArray [(vStr (strO "encode_header") 323), (vStr (strO "encode_header") 324), (vStr (strO "/claim/cut.py") 325), (vInt 44 0), (vInt 1 0), (vInt 0 0), (vInt 0 0), (vInt 3 0), (vRef 116), (Value.bool true), (vInt 181 0), (vRef 117), Value.none, (vRef 118), (vRef 119), (vRef 120), (vInt 327 0), (vInt 44 0), (vStr (strO "/claim/cut.py") 328)])) (List.toArray [])),
  (Obj.mk (vTyp "function") none (Data.func (FuncData.mk (strO "encode_header") (strO "encode_header") (fArgs (fdef pBody 12)) (FuncBody.stmts (fBody (fdef pBody 12))) (fScope (fdef pBody 12)) 3 [] Value.none Value.none Value.none (vStr (strO "vault.core") 194) none (vRef 121) Value.none 0)) (List.toArray [])),
  (Obj.mk (vTyp "tuple") none (Data.seq (List.toArray []) 0) (List.toArray [])),
  (Obj.mk Value.none none (Data.fields (List.toArray [])) (List.toArray [])),
  (Obj.mk (vTyp "tuple") none (Data.seq (List.toArray [(vStr (strO "block") 333), (vStr (strO "count") 334), (vStr (strO "x") 335)]) 0) (List.toArray [])),
  (Obj.mk (vTyp "tuple") none (Data.seq (List.toArray []) 0) (List.toArray [])),
  (Obj.mk Value.none none (Data.func (FuncData.mk (strO "decode_header") (strO "decode_header") (fArgs (fdef pBody 13)) (FuncBody.stmts (fBody (fdef pBody 13))) (fScope (fdef pBody 13)) 0 [] Value.none Value.none Value.none Value.none none Value.none Value.none 0)) (List.toArray [])),
  (Obj.mk (vTyp "code") none (Data.fields (List.toArray [(vStr (strO "decode_header") 330), (vStr (strO "decode_header") 331), (vStr (strO "/claim/cut.py") 332), (vInt 46 0), (vInt 1 0), (vInt 0 0), (vInt 0 0), (vInt 3 0), (vRef 123), (Value.bool true), (vInt 181 0), (vRef 124), Value.none, (vRef 125), (vRef 126), (vRef 127), (vInt 336 0), (vInt 46 0), (vStr (strO "/claim/cut.py") 337)])) (List.toArray [])),
  (Obj.mk (vTyp "function") none (Data.func (FuncData.mk (strO "decode_header") (strO "decode_header") (fArgs (fdef pBody 13)) (FuncBody.stmts (fBody (fdef pBody 13))) (fScope (fdef pBody 13)) 3 [] Value.none Value.none Value.none (vStr (strO "vault.core") 194) none (vRef 128) Value.none 0)) (List.toArray [])),
  (Obj.mk (vTyp "tuple") none (Data.seq (List.toArray []) 0) (List.toArray [])),
  (Obj.mk (vTyp "builtin_function_or_method") none (Data.fields (List.toArray [(Value.builtin "type.__prepare__"), (vTyp "type")])) (List.toArray [])),
  (Obj.mk (vTyp "dict") none (Data.dict (List.toArray [(dEnt (kHsh P (strO "__module__")) (vStr (strO "__module__") 346) (vStr (strO "vault.core") 194)), (dEnt (kHsh P (strO "__qualname__")) (vStr (strO "__qualname__") 348) (vStr (strO "Disk") 347)), (dEnt (kHsh P (strO "__firstlineno__")) (vStr (strO "__firstlineno__") 350) (vInt 56 349)), (dEnt (kHsh P (strO "__init__")) (vStr (strO "__init__") 356) (vRef 141)), (dEnt (kHsh P (strO "read")) (vStr (strO "read") 364) (vRef 148)), (dEnt (kHsh P (strO "write")) (vStr (strO "write") 373) (vRef 155)), (dEnt (kHsh P (strO "image")) (vStr (strO "image") 379) (vRef 160)), (dEnt (kHsh P (strO "__static_attributes__")) (vStr (strO "__static_attributes__") 383) (vRef 161))]) 8) (List.toArray [])),
  (Obj.mk (vTyp "tuple") none (Data.seq (List.toArray []) 0) (List.toArray [])),
  (Obj.mk Value.none none (Data.fields (List.toArray [(vInt 58 0), (vInt 4 0), (vRef 140), (vInt 63 0), (vInt 4 0), (vRef 147), (vInt 66 0), (vInt 4 0), (vRef 154), (vInt 74 0), (vInt 4 0), (vRef 159)])) (List.toArray [])),
  (Obj.mk (vTyp "code") none (Data.fields (List.toArray [(vStr (strO "Disk") 341), (vStr (strO "Disk") 342), (vStr (strO "/claim/cut.py") 343), (vInt 56 0), (vInt 0 0), (vInt 0 0), (vInt 0 0), (vInt 0 0), (vRef 133), (Value.bool false), (vInt 181 0), (vRef 134), Value.none, Value.none, Value.none, Value.none, (vInt 344 0), (vInt 56 0), (vStr (strO "/claim/cut.py") 345)])) (List.toArray [])),
  (Obj.mk (vTyp "frame") none Data.plain (List.toArray [(some (vRef 135)), (some (vRef 3)), (some (vRef 132)), none, (some (vStr (strO "vault.core") 194)), none, (some (vRef 0))])),
  (Obj.mk (vTyp "tuple") none (Data.seq (List.toArray []) 0) (List.toArray [])),
  (Obj.mk Value.none none (Data.fields (List.toArray [])) (List.toArray [])),
  (Obj.mk Value.none none (Data.func (FuncData.mk (strO "__init__") (strO "Disk.__init__") (fArgs (fdef (fBody (fdef pBody 14)) 0)) (FuncBody.stmts (fBody (fdef (fBody (fdef pBody 14)) 0))) (fScope (fdef (fBody (fdef pBody 14)) 0)) 0 [] Value.none Value.none Value.none Value.none none Value.none Value.none 0)) (List.toArray [])),
  (Obj.mk (vTyp "code") none (Data.fields (List.toArray [(vStr (strO "__init__") 351), (vStr (strO "Disk.__init__") 352), (vStr (strO "/claim/cut.py") 353), (vInt 58 0), (vInt 3 0), (vInt 0 0), (vInt 0 0), (vInt 3 0), (vRef 137), (Value.bool true), (vInt 181 0), (vRef 138), Value.none, Value.none, Value.none, (vRef 139), (vInt 354 0), (vInt 58 0), (vStr (strO "/claim/cut.py") 355)])) (List.toArray [])),
  (Obj.mk (vTyp "function") none (Data.func (FuncData.mk (strO "__init__") (strO "Disk.__init__") (fArgs (fdef (fBody (fdef pBody 14)) 0)) (FuncBody.stmts (fBody (fdef (fBody (fdef pBody 14)) 0))) (fScope (fdef (fBody (fdef pBody 14)) 0)) 3 [] Value.none Value.none Value.none (vStr (strO "vault.core") 194) none (vRef 140) Value.none 0)) (List.toArray [])),
  (Obj.mk (vTyp "tuple") none (Data.seq (List.toArray []) 0) (List.toArray [])),
  (Obj.mk Value.none none (Data.fields (List.toArray [])) (List.toArray [])),
  (Obj.mk (vTyp "tuple") none (Data.seq (List.toArray [(vStr (strO "self") 360), (vStr (strO "i") 361)]) 0) (List.toArray [])),
  (Obj.mk (vTyp "tuple") none (Data.seq (List.toArray []) 0) (List.toArray [])),
  (Obj.mk Value.none none (Data.func (FuncData.mk (strO "read") (strO "Disk.read") (fArgs (fdef (fBody (fdef pBody 14)) 1)) (FuncBody.stmts (fBody (fdef (fBody (fdef pBody 14)) 1))) (fScope (fdef (fBody (fdef pBody 14)) 1)) 0 [] Value.none Value.none Value.none Value.none none Value.none Value.none 0)) (List.toArray [])),
  (Obj.mk (vTyp "code") none (Data.fields (List.toArray [(vStr (strO "read") 357), (vStr (strO "Disk.read") 358), (vStr (strO "/claim/cut.py") 359), (vInt 63 0), (vInt 2 0), (vInt 0 0), (vInt 0 0), (vInt 3 0), (vRef 142), (Value.bool true), (vInt 181 0), (vRef 143), Value.none, (vRef 144), (vRef 145), (vRef 146), (vInt 362 0), (vInt 63 0), (vStr (strO "/claim/cut.py") 363)])) (List.toArray [])),
  (Obj.mk (vTyp "function") none (Data.func (FuncData.mk (strO "read") (strO "Disk.read") (fArgs (fdef (fBody (fdef pBody 14)) 1)) (FuncBody.stmts (fBody (fdef (fBody (fdef pBody 14)) 1))) (fScope (fdef (fBody (fdef pBody 14)) 1)) 3 [] Value.none Value.none Value.none (vStr (strO "vault.core") 194) none (vRef 147) Value.none 0)) (List.toArray [])),
  (Obj.mk (vTyp "tuple") none (Data.seq (List.toArray []) 0) (List.toArray [])),
  (Obj.mk Value.none none (Data.fields (List.toArray [])) (List.toArray [])),
  (Obj.mk (vTyp "tuple") none (Data.seq (List.toArray [(vStr (strO "self") 368), (vStr (strO "i") 369), (vStr (strO "block") 370)]) 0) (List.toArray [])),
  (Obj.mk (vTyp "tuple") none (Data.seq (List.toArray []) 0) (List.toArray [])),
  (Obj.mk Value.none none (Data.func (FuncData.mk (strO "write") (strO "Disk.write") (fArgs (fdef (fBody (fdef pBody 14)) 2)) (FuncBody.stmts (fBody (fdef (fBody (fdef pBody 14)) 2))) (fScope (fdef (fBody (fdef pBody 14)) 2)) 0 [] Value.none Value.none Value.none Value.none none Value.none Value.none 0)) (List.toArray [])),
  (Obj.mk (vTyp "code") none (Data.fields (List.toArray [(vStr (strO "write") 365), (vStr (strO "Disk.write") 366), (vStr (strO "/claim/cut.py") 367), (vInt 66 0), (vInt 3 0), (vInt 0 0), (vInt 0 0), (vInt 3 0), (vRef 149), (Value.bool true), (vInt 181 0), (vRef 150), Value.none, (vRef 151), (vRef 152), (vRef 153), (vInt 371 0), (vInt 66 0), (vStr (strO "/claim/cut.py") 372)])) (List.toArray [])),
  (Obj.mk (vTyp "function") none (Data.func (FuncData.mk (strO "write") (strO "Disk.write") (fArgs (fdef (fBody (fdef pBody 14)) 2)) (FuncBody.stmts (fBody (fdef (fBody (fdef pBody 14)) 2))) (fScope (fdef (fBody (fdef pBody 14)) 2)) 3 [] Value.none Value.none Value.none (vStr (strO "vault.core") 194) none (vRef 154) Value.none 0)) (List.toArray []))]

noncomputable def obNb (P : Params) : List Obj := [
  (Obj.mk (vTyp "tuple") none (Data.seq (List.toArray []) 0) (List.toArray [])),
  (Obj.mk Value.none none (Data.fields (List.toArray [])) (List.toArray [])),
  (Obj.mk Value.none none (Data.func (FuncData.mk (strO "image") (strO "Disk.image") (fArgs (fdef (fBody (fdef pBody 14)) 3)) (FuncBody.stmts (fBody (fdef (fBody (fdef pBody 14)) 3))) (fScope (fdef (fBody (fdef pBody 14)) 3)) 0 [] Value.none Value.none Value.none Value.none none Value.none Value.none 0)) (List.toArray [])),
  (Obj.mk (vTyp "code") none (Data.fields (List.toArray [(vStr (strO "image") 374), (vStr (strO "Disk.image") 375), (vStr (strO "/claim/cut.py") 376), (vInt 74 0), (vInt 1 0), (vInt 0 0), (vInt 0 0), (vInt 3 0), (vRef 156), (Value.bool true), (vInt 181 0), (vRef 157), Value.none, Value.none, Value.none, (vRef 158), (vInt 377 0), (vInt 74 0), (vStr (strO "/claim/cut.py") 378)])) (List.toArray [])),
  (Obj.mk (vTyp "function") none (Data.func (FuncData.mk (strO "image") (strO "Disk.image") (fArgs (fdef (fBody (fdef pBody 14)) 3)) (FuncBody.stmts (fBody (fdef (fBody (fdef pBody 14)) 3))) (fScope (fdef (fBody (fdef pBody 14)) 3)) 3 [] Value.none Value.none Value.none (vStr (strO "vault.core") 194) none (vRef 159) Value.none 0)) (List.toArray [])),
  (Obj.mk (vTyp "tuple") none (Data.seq (List.toArray [(vStr (strO "blocks") 380), (vStr (strO "budget") 381), (vStr (strO "writes") 382)]) 0) (List.toArray [])),
  (Obj.mk (vTyp "dict") none (Data.dict (List.toArray [(dEnt (kHsh P (strO "__module__")) (vStr (strO "__module__") 346) (vStr (strO "vault.core") 194)), (dEnt (kHsh P (strO "__firstlineno__")) (vStr (strO "__firstlineno__") 350) (vInt 56 349)), (dEnt (kHsh P (strO "__init__")) (vStr (strO "__init__") 356) (vRef 141)), (dEnt (kHsh P (strO "read")) (vStr (strO "read") 364) (vRef 148)), (dEnt (kHsh P (strO "write")) (vStr (strO "write") 373) (vRef 155)), (dEnt (kHsh P (strO "image")) (vStr (strO "image") 379) (vRef 160)), (dEnt (kHsh P (strO "__static_attributes__")) (vStr (strO "__static_attributes__") 383) (vRef 161)), (dEnt (kHsh P (strO "__dict__")) (vStr (strO "__dict__") 385) (vRef 164)), (dEnt (kHsh P (strO "__weakref__")) (vStr (strO "__weakref__") 387) (vRef 165)), (dEnt (kHsh P (strO "__doc__")) (vStr (strO "__doc__") 388) Value.none)]) 4) (List.toArray [])),
  (Obj.mk (vTyp "type") none (Data.cls (ClassData.mk (strO "Disk") [(vTyp "object")] [(vRef 163), (vTyp "object")] 162 (strO "Disk") true [] [] false none false)) (List.toArray [none, none, (some (vStr (strO "Disk") 339)), (some (vStr (strO "Disk") 347)), (some (Value.builtin "object.__new__")), (some (Value.bool true))])),
  (Obj.mk (vTyp "getset_descriptor") none (Data.fields (List.toArray [(vStr (strO "__dict__") 384), (vRef 163), (Value.builtin "function.__dict__"), (Value.builtin "function.__dict__#set")])) (List.toArray [])),
  (Obj.mk (vTyp "getset_descriptor") none (Data.fields (List.toArray [(vStr (strO "__weakref__") 386), (vRef 163), (Value.builtin "ExceptionGroup.__weakref__"), Value.none])) (List.toArray [])),
  (Obj.mk (vTyp "super") none (Data.fields (List.toArray [(vRef 163), (vRef 163), (vRef 163)])) (List.toArray [])),
  (Obj.mk (vTyp "builtin_function_or_method") none (Data.fields (List.toArray [(Value.builtin "object.__init_subclass__"), (vRef 163)])) (List.toArray []))]

noncomputable def obN (P : Params) : List Obj := obNa P ++ (obNb P)

noncomputable def obB (P : Params) : List Obj := obM P ++ obN P

noncomputable def obCa (P : Params) : List Obj := [
  (Obj.mk (vTyp "tuple") none (Data.seq (List.toArray []) 0) (List.toArray [])),
  (Obj.mk (vTyp "builtin_function_or_method") none (Data.fields (List.toArray [(Value.builtin "type.__prepare__"), (vTyp "type")])) (List.toArray [])),
  (Obj.mk (vTyp "dict") none (Data.dict (List.toArray [(dEnt (kHsh P (strO "__module__")) (vStr (strO "__module__") 398) (vStr (strO "vault.core") 194)), (dEnt (kHsh P (strO "__qualname__")) (vStr (strO "__qualname__") 400) (vStr (strO "Vault") 399)), (dEnt (kHsh P (strO "__firstlineno__")) (vStr (strO "__firstlineno__") 402) (vInt 76 401)), (dEnt (kHsh P (strO "__init__")) (vStr (strO "__init__") 412) (vRef 181)), (dEnt (kHsh P (strO "home")) (vStr (strO "home") 420) (vRef 188)), (dEnt (kHsh P (strO "wipe")) (vStr (strO "wipe") 427) (vRef 195)), (dEnt (kHsh P (strO "install")) (vStr (strO "install") 436) (vRef 202)), (dEnt (kHsh P (strO "recover")) (vStr (strO "recover") 443) (vRef 209)), (dEnt (kHsh P (strO "read_slot")) (vStr (strO "read_slot") 452) (vRef 216)), (dEnt (kHsh P (strO "slot_of")) (vStr (strO "slot_of") 460) (vRef 223)), (dEnt (kHsh P (strO "find_free")) (vStr (strO "find_free") 467) (vRef 230)), (dEnt (kHsh P (strO "stage")) (vStr (strO "stage") 477) (vRef 237)), (dEnt (kHsh P (strO "fetch")) (vStr (strO "fetch") 485) (vRef 244)), (dEnt (kHsh P (strO "put")) (vStr (strO "put") 494) (vRef 251)), (dEnt (kHsh P (strO "delete")) (vStr (strO "delete") 502) (vRef 258)), (dEnt (kHsh P (strO "rollback")) (vStr (strO "rollback") 509) (vRef 265)), (dEnt (kHsh P (strO "commit")) (vStr (strO "commit") 518) (vRef 272)), (dEnt (kHsh P (strO "pairs")) (vStr (strO "pairs") 525) (vRef 279)), (dEnt (kHsh P (strO "__static_attributes__")) (vStr (strO "__static_attributes__") 531) (vRef 280))]) 19) (List.toArray [])),
  (Obj.mk (vTyp "tuple") none (Data.seq (List.toArray []) 0) (List.toArray [])),
  (Obj.mk Value.none none (Data.fields (List.toArray [(vInt 78 0), (vInt 4 0), (vRef 180), (vInt 85 0), (vInt 4 0), (vRef 187), (vInt 88 0), (vInt 4 0), (vRef 194), (vInt 91 0), (vInt 4 0), (vRef 201), (vInt 96 0), (vInt 4 0), (vRef 208), (vInt 99 0), (vInt 4 0), (vRef 215), (vInt 108 0), (vInt 4 0), (vRef 222), (vInt 111 0), (vInt 4 0), (vRef 229), (vInt 114 0), (vInt 4 0), (vRef 236), (vInt 123 0), (vInt 4 0), (vRef 243), (vInt 126 0), (vInt 4 0), (vRef 250), (vInt 129 0), (vInt 4 0), (vRef 257), (vInt 132 0), (vInt 4 0), (vRef 264), (vInt 135 0), (vInt 4 0), (vRef 271), (vInt 148 0), (vInt 4 0), (vRef 278)])) (List.toArray [])),
  (Obj.mk (vTyp "code") none (Data.fields (List.toArray [(vStr (strO "Vault") 393), (vStr (strO "Vault") 394), (vStr (strO "/claim/cut.py") 395), (vInt 76 0), (vInt 0 0), (vInt 0 0), (vInt 0 0), (vInt 0 0), (vRef 171), (Value.bool false), (vInt 181 0), (vRef 172), Value.none, Value.none, Value.none, Value.none, (vInt 396 0), (vInt 76 0), (vStr (strO "/claim/cut.py") 397)])) (List.toArray [])),
  (Obj.mk (vTyp "frame") none Data.plain (List.toArray [(some (vRef 173)), (some (vRef 3)), (some (vRef 170)), none, (some (vStr (strO "vault.core") 194)), none, (some (vRef 0))])),
  (Obj.mk (vTyp "tuple") none (Data.seq (List.toArray []) 0) (List.toArray [])),
  (Obj.mk Value.none none (Data.fields (List.toArray [])) (List.toArray [])),
  (Obj.mk (vTyp "tuple") none (Data.seq (List.toArray [(vStr (strO "self") 406), (vStr (strO "disk") 407), (vStr (strO "slots") 408), (vStr (strO "log_size") 409)]) 0) (List.toArray [])),
  (Obj.mk (vTyp "tuple") none (Data.seq (List.toArray []) 0) (List.toArray [])),
  (Obj.mk Value.none none (Data.func (FuncData.mk (strO "__init__") (strO "Vault.__init__") (fArgs (fdef (fBody (fdef pBody 15)) 0)) (FuncBody.stmts (fBody (fdef (fBody (fdef pBody 15)) 0))) (fScope (fdef (fBody (fdef pBody 15)) 0)) 0 [] Value.none Value.none Value.none Value.none none Value.none Value.none 0)) (List.toArray [])),
  (Obj.mk (vTyp "code") none (Data.fields (List.toArray [(vStr (strO "__init__") 403), (vStr (strO "Vault.__init__") 404), (vStr (strO "/claim/cut.py") 405), (vInt 78 0), (vInt 4 0), (vInt 0 0), (vInt 0 0), (vInt 3 0), (vRef 175), (Value.bool true), (vInt 181 0), (vRef 176), Value.none, (vRef 177), (vRef 178), (vRef 179), (vInt 410 0), (vInt 78 0), (vStr (strO "/claim/cut.py") 411)])) (List.toArray [])),
  (Obj.mk (vTyp "function") none (Data.func (FuncData.mk (strO "__init__") (strO "Vault.__init__") (fArgs (fdef (fBody (fdef pBody 15)) 0)) (FuncBody.stmts (fBody (fdef (fBody (fdef pBody 15)) 0))) (fScope (fdef (fBody (fdef pBody 15)) 0)) 3 [] Value.none Value.none Value.none (vStr (strO "vault.core") 194) none (vRef 180) Value.none 0)) (List.toArray [])),
  (Obj.mk (vTyp "tuple") none (Data.seq (List.toArray []) 0) (List.toArray [])),
  (Obj.mk Value.none none (Data.fields (List.toArray [])) (List.toArray [])),
  (Obj.mk (vTyp "tuple") none (Data.seq (List.toArray [(vStr (strO "self") 416), (vStr (strO "i") 417)]) 0) (List.toArray [])),
  (Obj.mk (vTyp "tuple") none (Data.seq (List.toArray []) 0) (List.toArray [])),
  (Obj.mk Value.none none (Data.func (FuncData.mk (strO "home") (strO "Vault.home") (fArgs (fdef (fBody (fdef pBody 15)) 1)) (FuncBody.stmts (fBody (fdef (fBody (fdef pBody 15)) 1))) (fScope (fdef (fBody (fdef pBody 15)) 1)) 0 [] Value.none Value.none Value.none Value.none none Value.none Value.none 0)) (List.toArray [])),
  (Obj.mk (vTyp "code") none (Data.fields (List.toArray [(vStr (strO "home") 413), (vStr (strO "Vault.home") 414), (vStr (strO "/claim/cut.py") 415), (vInt 85 0), (vInt 2 0), (vInt 0 0), (vInt 0 0), (vInt 3 0), (vRef 182), (Value.bool true), (vInt 181 0), (vRef 183), Value.none, (vRef 184), (vRef 185), (vRef 186), (vInt 418 0), (vInt 85 0), (vStr (strO "/claim/cut.py") 419)])) (List.toArray [])),
  (Obj.mk (vTyp "function") none (Data.func (FuncData.mk (strO "home") (strO "Vault.home") (fArgs (fdef (fBody (fdef pBody 15)) 1)) (FuncBody.stmts (fBody (fdef (fBody (fdef pBody 15)) 1))) (fScope (fdef (fBody (fdef pBody 15)) 1)) 3 [] Value.none Value.none Value.none (vStr (strO "vault.core") 194) none (vRef 187) Value.none 0)) (List.toArray [])),
  (Obj.mk (vTyp "tuple") none (Data.seq (List.toArray []) 0) (List.toArray [])),
  (Obj.mk Value.none none (Data.fields (List.toArray [])) (List.toArray [])),
  (Obj.mk (vTyp "tuple") none (Data.seq (List.toArray [(vStr (strO "self") 424)]) 0) (List.toArray [])),
  (Obj.mk (vTyp "tuple") none (Data.seq (List.toArray []) 0) (List.toArray [])),
  (Obj.mk Value.none none (Data.func (FuncData.mk (strO "wipe") (strO "Vault.wipe") (fArgs (fdef (fBody (fdef pBody 15)) 2)) (FuncBody.stmts (fBody (fdef (fBody (fdef pBody 15)) 2))) (fScope (fdef (fBody (fdef pBody 15)) 14)) 0 [] Value.none Value.none Value.none Value.none none Value.none Value.none 0)) (List.toArray [])),
  (Obj.mk (vTyp "code") none (Data.fields (List.toArray [(vStr (strO "wipe") 421), (vStr (strO "Vault.wipe") 422), (vStr (strO "/claim/cut.py") 423), (vInt 88 0), (vInt 1 0), (vInt 0 0), (vInt 0 0), (vInt 3 0), (vRef 189), (Value.bool true), (vInt 181 0), (vRef 190), Value.none, (vRef 191), (vRef 192), (vRef 193), (vInt 425 0), (vInt 88 0), (vStr (strO "/claim/cut.py") 426)])) (List.toArray [])),
  (Obj.mk (vTyp "function") none (Data.func (FuncData.mk (strO "wipe") (strO "Vault.wipe") (fArgs (fdef (fBody (fdef pBody 15)) 2)) (FuncBody.stmts (fBody (fdef (fBody (fdef pBody 15)) 2))) (fScope (fdef (fBody (fdef pBody 15)) 14)) 3 [] Value.none Value.none Value.none (vStr (strO "vault.core") 194) none (vRef 194) Value.none 0)) (List.toArray [])),
  (Obj.mk (vTyp "tuple") none (Data.seq (List.toArray []) 0) (List.toArray [])),
  (Obj.mk Value.none none (Data.fields (List.toArray [])) (List.toArray [])),
  (Obj.mk (vTyp "tuple") none (Data.seq (List.toArray [(vStr (strO "self") 431), (vStr (strO "targets") 432), (vStr (strO "j") 433)]) 0) (List.toArray [])),
  (Obj.mk (vTyp "tuple") none (Data.seq (List.toArray []) 0) (List.toArray [])),
  (Obj.mk Value.none none (Data.func (FuncData.mk (strO "install") (strO "Vault.install") (fArgs (fdef (fBody (fdef pBody 15)) 3)) (FuncBody.stmts (fBody (fdef (fBody (fdef pBody 15)) 3))) (fScope (fdef (fBody (fdef pBody 15)) 3)) 0 [] Value.none Value.none Value.none Value.none none Value.none Value.none 0)) (List.toArray [])),
  (Obj.mk (vTyp "code") none (Data.fields (List.toArray [(vStr (strO "install") 428), (vStr (strO "Vault.install") 429), (vStr (strO "/claim/cut.py") 430), (vInt 91 0), (vInt 2 0), (vInt 0 0), (vInt 0 0), (vInt 3 0), (vRef 196), (Value.bool true), (vInt 181 0), (vRef 197), Value.none, (vRef 198), (vRef 199), (vRef 200), (vInt 434 0), (vInt 91 0), (vStr (strO "/claim/cut.py") 435)])) (List.toArray [])),
  (Obj.mk (vTyp "function") none (Data.func (FuncData.mk (strO "install") (strO "Vault.install") (fArgs (fdef (fBody (fdef pBody 15)) 3)) (FuncBody.stmts (fBody (fdef (fBody (fdef pBody 15)) 3))) (fScope (fdef (fBody (fdef pBody 15)) 3)) 3 [] Value.none Value.none Value.none (vStr (strO "vault.core") 194) none (vRef 201) Value.none 0)) (List.toArray [])),
  (Obj.mk (vTyp "tuple") none (Data.seq (List.toArray []) 0) (List.toArray [])),
  (Obj.mk Value.none none (Data.fields (List.toArray [])) (List.toArray [])),
  (Obj.mk (vTyp "tuple") none (Data.seq (List.toArray [(vStr (strO "self") 440)]) 0) (List.toArray [])),
  (Obj.mk (vTyp "tuple") none (Data.seq (List.toArray []) 0) (List.toArray [])),
  (Obj.mk Value.none none (Data.func (FuncData.mk (strO "recover") (strO "Vault.recover") (fArgs (fdef (fBody (fdef pBody 15)) 4)) (FuncBody.stmts (fBody (fdef (fBody (fdef pBody 15)) 4))) (fScope (fdef (fBody (fdef pBody 15)) 14)) 0 [] Value.none Value.none Value.none Value.none none Value.none Value.none 0)) (List.toArray []))]

noncomputable def obCb (P : Params) : List Obj := [
  (Obj.mk (vTyp "code") none (Data.fields (List.toArray [(vStr (strO "recover") 437), (vStr (strO "Vault.recover") 438), (vStr (strO "/claim/cut.py") 439), (vInt 96 0), (vInt 1 0), (vInt 0 0), (vInt 0 0), (vInt 3 0), (vRef 203), (Value.bool true), (vInt 181 0), (vRef 204), Value.none, (vRef 205), (vRef 206), (vRef 207), (vInt 441 0), (vInt 96 0), (vStr (strO "/claim/cut.py") 442)])) (List.toArray [])),
  (Obj.mk (vTyp "function") none (Data.func (FuncData.mk (strO "recover") (strO "Vault.recover") (fArgs (fdef (fBody (fdef pBody 15)) 4)) (FuncBody.stmts (fBody (fdef (fBody (fdef pBody 15)) 4))) (fScope (fdef (fBody (fdef pBody 15)) 14)) 3 [] Value.none Value.none Value.none (vStr (strO "vault.core") 194) none (vRef 208) Value.none 0)) (List.toArray [])),
  (Obj.mk (vTyp "tuple") none (Data.seq (List.toArray []) 0) (List.toArray [])),
  (Obj.mk Value.none none (Data.fields (List.toArray [])) (List.toArray [])),
  (Obj.mk (vTyp "tuple") none (Data.seq (List.toArray [(vStr (strO "self") 447), (vStr (strO "i") 448), (vStr (strO "p") 449)]) 0) (List.toArray [])),
  (Obj.mk (vTyp "tuple") none (Data.seq (List.toArray []) 0) (List.toArray [])),
  (Obj.mk Value.none none (Data.func (FuncData.mk (strO "read_slot") (strO "Vault.read_slot") (fArgs (fdef (fBody (fdef pBody 15)) 5)) (FuncBody.stmts (fBody (fdef (fBody (fdef pBody 15)) 5))) (fScope (fdef (fBody (fdef pBody 15)) 5)) 0 [] Value.none Value.none Value.none Value.none none Value.none Value.none 0)) (List.toArray [])),
  (Obj.mk (vTyp "code") none (Data.fields (List.toArray [(vStr (strO "read_slot") 444), (vStr (strO "Vault.read_slot") 445), (vStr (strO "/claim/cut.py") 446), (vInt 99 0), (vInt 2 0), (vInt 0 0), (vInt 0 0), (vInt 3 0), (vRef 210), (Value.bool true), (vInt 181 0), (vRef 211), Value.none, (vRef 212), (vRef 213), (vRef 214), (vInt 450 0), (vInt 99 0), (vStr (strO "/claim/cut.py") 451)])) (List.toArray [])),
  (Obj.mk (vTyp "function") none (Data.func (FuncData.mk (strO "read_slot") (strO "Vault.read_slot") (fArgs (fdef (fBody (fdef pBody 15)) 5)) (FuncBody.stmts (fBody (fdef (fBody (fdef pBody 15)) 5))) (fScope (fdef (fBody (fdef pBody 15)) 5)) 3 [] Value.none Value.none Value.none (vStr (strO "vault.core") 194) none (vRef 215) Value.none 0)) (List.toArray [])),
  (Obj.mk (vTyp "tuple") none (Data.seq (List.toArray []) 0) (List.toArray [])),
  (Obj.mk Value.none none (Data.fields (List.toArray [])) (List.toArray [])),
  (Obj.mk (vTyp "tuple") none (Data.seq (List.toArray [(vStr (strO "self") 456), (vStr (strO "key") 457)]) 0) (List.toArray [])),
  (Obj.mk (vTyp "tuple") none (Data.seq (List.toArray []) 0) (List.toArray [])),
  (Obj.mk Value.none none (Data.func (FuncData.mk (strO "slot_of") (strO "Vault.slot_of") (fArgs (fdef (fBody (fdef pBody 15)) 6)) (FuncBody.stmts (fBody (fdef (fBody (fdef pBody 15)) 6))) (fScope (fdef (fBody (fdef pBody 15)) 11)) 0 [] Value.none Value.none Value.none Value.none none Value.none Value.none 0)) (List.toArray [])),
  (Obj.mk (vTyp "code") none (Data.fields (List.toArray [(vStr (strO "slot_of") 453), (vStr (strO "Vault.slot_of") 454), (vStr (strO "/claim/cut.py") 455), (vInt 108 0), (vInt 2 0), (vInt 0 0), (vInt 0 0), (vInt 3 0), (vRef 217), (Value.bool true), (vInt 181 0), (vRef 218), Value.none, (vRef 219), (vRef 220), (vRef 221), (vInt 458 0), (vInt 108 0), (vStr (strO "/claim/cut.py") 459)])) (List.toArray [])),
  (Obj.mk (vTyp "function") none (Data.func (FuncData.mk (strO "slot_of") (strO "Vault.slot_of") (fArgs (fdef (fBody (fdef pBody 15)) 6)) (FuncBody.stmts (fBody (fdef (fBody (fdef pBody 15)) 6))) (fScope (fdef (fBody (fdef pBody 15)) 11)) 3 [] Value.none Value.none Value.none (vStr (strO "vault.core") 194) none (vRef 222) Value.none 0)) (List.toArray [])),
  (Obj.mk (vTyp "tuple") none (Data.seq (List.toArray []) 0) (List.toArray [])),
  (Obj.mk Value.none none (Data.fields (List.toArray [])) (List.toArray [])),
  (Obj.mk (vTyp "tuple") none (Data.seq (List.toArray [(vStr (strO "self") 464)]) 0) (List.toArray [])),
  (Obj.mk (vTyp "tuple") none (Data.seq (List.toArray []) 0) (List.toArray [])),
  (Obj.mk Value.none none (Data.func (FuncData.mk (strO "find_free") (strO "Vault.find_free") (fArgs (fdef (fBody (fdef pBody 15)) 7)) (FuncBody.stmts (fBody (fdef (fBody (fdef pBody 15)) 7))) (fScope (fdef (fBody (fdef pBody 15)) 14)) 0 [] Value.none Value.none Value.none Value.none none Value.none Value.none 0)) (List.toArray [])),
  (Obj.mk (vTyp "code") none (Data.fields (List.toArray [(vStr (strO "find_free") 461), (vStr (strO "Vault.find_free") 462), (vStr (strO "/claim/cut.py") 463), (vInt 111 0), (vInt 1 0), (vInt 0 0), (vInt 0 0), (vInt 3 0), (vRef 224), (Value.bool true), (vInt 181 0), (vRef 225), Value.none, (vRef 226), (vRef 227), (vRef 228), (vInt 465 0), (vInt 111 0), (vStr (strO "/claim/cut.py") 466)])) (List.toArray [])),
  (Obj.mk (vTyp "function") none (Data.func (FuncData.mk (strO "find_free") (strO "Vault.find_free") (fArgs (fdef (fBody (fdef pBody 15)) 7)) (FuncBody.stmts (fBody (fdef (fBody (fdef pBody 15)) 7))) (fScope (fdef (fBody (fdef pBody 15)) 14)) 3 [] Value.none Value.none Value.none (vStr (strO "vault.core") 194) none (vRef 229) Value.none 0)) (List.toArray [])),
  (Obj.mk (vTyp "tuple") none (Data.seq (List.toArray []) 0) (List.toArray [])),
  (Obj.mk Value.none none (Data.fields (List.toArray [])) (List.toArray [])),
  (Obj.mk (vTyp "tuple") none (Data.seq (List.toArray [(vStr (strO "self") 471), (vStr (strO "i") 472), (vStr (strO "block") 473), (vStr (strO "j") 474)]) 0) (List.toArray [])),
  (Obj.mk (vTyp "tuple") none (Data.seq (List.toArray []) 0) (List.toArray [])),
  (Obj.mk Value.none none (Data.func (FuncData.mk (strO "stage") (strO "Vault.stage") (fArgs (fdef (fBody (fdef pBody 15)) 8)) (FuncBody.stmts (fBody (fdef (fBody (fdef pBody 15)) 8))) (fScope (fdef (fBody (fdef pBody 15)) 8)) 0 [] Value.none Value.none Value.none Value.none none Value.none Value.none 0)) (List.toArray [])),
  (Obj.mk (vTyp "code") none (Data.fields (List.toArray [(vStr (strO "stage") 468), (vStr (strO "Vault.stage") 469), (vStr (strO "/claim/cut.py") 470), (vInt 114 0), (vInt 3 0), (vInt 0 0), (vInt 0 0), (vInt 3 0), (vRef 231), (Value.bool true), (vInt 181 0), (vRef 232), Value.none, (vRef 233), (vRef 234), (vRef 235), (vInt 475 0), (vInt 114 0), (vStr (strO "/claim/cut.py") 476)])) (List.toArray [])),
  (Obj.mk (vTyp "function") none (Data.func (FuncData.mk (strO "stage") (strO "Vault.stage") (fArgs (fdef (fBody (fdef pBody 15)) 8)) (FuncBody.stmts (fBody (fdef (fBody (fdef pBody 15)) 8))) (fScope (fdef (fBody (fdef pBody 15)) 8)) 3 [] Value.none Value.none Value.none (vStr (strO "vault.core") 194) none (vRef 236) Value.none 0)) (List.toArray [])),
  (Obj.mk (vTyp "tuple") none (Data.seq (List.toArray []) 0) (List.toArray [])),
  (Obj.mk Value.none none (Data.fields (List.toArray [])) (List.toArray [])),
  (Obj.mk (vTyp "tuple") none (Data.seq (List.toArray [(vStr (strO "self") 481), (vStr (strO "key") 482)]) 0) (List.toArray [])),
  (Obj.mk (vTyp "tuple") none (Data.seq (List.toArray []) 0) (List.toArray [])),
  (Obj.mk Value.none none (Data.func (FuncData.mk (strO "fetch") (strO "Vault.fetch") (fArgs (fdef (fBody (fdef pBody 15)) 9)) (FuncBody.stmts (fBody (fdef (fBody (fdef pBody 15)) 9))) (fScope (fdef (fBody (fdef pBody 15)) 11)) 0 [] Value.none Value.none Value.none Value.none none Value.none Value.none 0)) (List.toArray [])),
  (Obj.mk (vTyp "code") none (Data.fields (List.toArray [(vStr (strO "fetch") 478), (vStr (strO "Vault.fetch") 479), (vStr (strO "/claim/cut.py") 480), (vInt 123 0), (vInt 2 0), (vInt 0 0), (vInt 0 0), (vInt 3 0), (vRef 238), (Value.bool true), (vInt 181 0), (vRef 239), Value.none, (vRef 240), (vRef 241), (vRef 242), (vInt 483 0), (vInt 123 0), (vStr (strO "/claim/cut.py") 484)])) (List.toArray [])),
  (Obj.mk (vTyp "function") none (Data.func (FuncData.mk (strO "fetch") (strO "Vault.fetch") (fArgs (fdef (fBody (fdef pBody 15)) 9)) (FuncBody.stmts (fBody (fdef (fBody (fdef pBody 15)) 9))) (fScope (fdef (fBody (fdef pBody 15)) 11)) 3 [] Value.none Value.none Value.none (vStr (strO "vault.core") 194) none (vRef 243) Value.none 0)) (List.toArray [])),
  (Obj.mk (vTyp "tuple") none (Data.seq (List.toArray []) 0) (List.toArray [])),
  (Obj.mk Value.none none (Data.fields (List.toArray [])) (List.toArray [])),
  (Obj.mk (vTyp "tuple") none (Data.seq (List.toArray [(vStr (strO "self") 489), (vStr (strO "key") 490), (vStr (strO "value") 491)]) 0) (List.toArray []))]

noncomputable def obCc (P : Params) : List Obj := [
  (Obj.mk (vTyp "tuple") none (Data.seq (List.toArray []) 0) (List.toArray [])),
  (Obj.mk Value.none none (Data.func (FuncData.mk (strO "put") (strO "Vault.put") (fArgs (fdef (fBody (fdef pBody 15)) 10)) (FuncBody.stmts (fBody (fdef (fBody (fdef pBody 15)) 10))) (fScope (fdef (fBody (fdef pBody 15)) 10)) 0 [] Value.none Value.none Value.none Value.none none Value.none Value.none 0)) (List.toArray [])),
  (Obj.mk (vTyp "code") none (Data.fields (List.toArray [(vStr (strO "put") 486), (vStr (strO "Vault.put") 487), (vStr (strO "/claim/cut.py") 488), (vInt 126 0), (vInt 3 0), (vInt 0 0), (vInt 0 0), (vInt 3 0), (vRef 245), (Value.bool true), (vInt 181 0), (vRef 246), Value.none, (vRef 247), (vRef 248), (vRef 249), (vInt 492 0), (vInt 126 0), (vStr (strO "/claim/cut.py") 493)])) (List.toArray [])),
  (Obj.mk (vTyp "function") none (Data.func (FuncData.mk (strO "put") (strO "Vault.put") (fArgs (fdef (fBody (fdef pBody 15)) 10)) (FuncBody.stmts (fBody (fdef (fBody (fdef pBody 15)) 10))) (fScope (fdef (fBody (fdef pBody 15)) 10)) 3 [] Value.none Value.none Value.none (vStr (strO "vault.core") 194) none (vRef 250) Value.none 0)) (List.toArray [])),
  (Obj.mk (vTyp "tuple") none (Data.seq (List.toArray []) 0) (List.toArray [])),
  (Obj.mk Value.none none (Data.fields (List.toArray [])) (List.toArray [])),
  (Obj.mk (vTyp "tuple") none (Data.seq (List.toArray [(vStr (strO "self") 498), (vStr (strO "key") 499)]) 0) (List.toArray [])),
  (Obj.mk (vTyp "tuple") none (Data.seq (List.toArray []) 0) (List.toArray [])),
  (Obj.mk Value.none none (Data.func (FuncData.mk (strO "delete") (strO "Vault.delete") (fArgs (fdef (fBody (fdef pBody 15)) 11)) (FuncBody.stmts (fBody (fdef (fBody (fdef pBody 15)) 11))) (fScope (fdef (fBody (fdef pBody 15)) 11)) 0 [] Value.none Value.none Value.none Value.none none Value.none Value.none 0)) (List.toArray [])),
  (Obj.mk (vTyp "code") none (Data.fields (List.toArray [(vStr (strO "delete") 495), (vStr (strO "Vault.delete") 496), (vStr (strO "/claim/cut.py") 497), (vInt 129 0), (vInt 2 0), (vInt 0 0), (vInt 0 0), (vInt 3 0), (vRef 252), (Value.bool true), (vInt 181 0), (vRef 253), Value.none, (vRef 254), (vRef 255), (vRef 256), (vInt 500 0), (vInt 129 0), (vStr (strO "/claim/cut.py") 501)])) (List.toArray [])),
  (Obj.mk (vTyp "function") none (Data.func (FuncData.mk (strO "delete") (strO "Vault.delete") (fArgs (fdef (fBody (fdef pBody 15)) 11)) (FuncBody.stmts (fBody (fdef (fBody (fdef pBody 15)) 11))) (fScope (fdef (fBody (fdef pBody 15)) 11)) 3 [] Value.none Value.none Value.none (vStr (strO "vault.core") 194) none (vRef 257) Value.none 0)) (List.toArray [])),
  (Obj.mk (vTyp "tuple") none (Data.seq (List.toArray []) 0) (List.toArray [])),
  (Obj.mk Value.none none (Data.fields (List.toArray [])) (List.toArray [])),
  (Obj.mk (vTyp "tuple") none (Data.seq (List.toArray [(vStr (strO "self") 506)]) 0) (List.toArray [])),
  (Obj.mk (vTyp "tuple") none (Data.seq (List.toArray []) 0) (List.toArray [])),
  (Obj.mk Value.none none (Data.func (FuncData.mk (strO "rollback") (strO "Vault.rollback") (fArgs (fdef (fBody (fdef pBody 15)) 12)) (FuncBody.stmts (fBody (fdef (fBody (fdef pBody 15)) 12))) (fScope (fdef (fBody (fdef pBody 15)) 14)) 0 [] Value.none Value.none Value.none Value.none none Value.none Value.none 0)) (List.toArray [])),
  (Obj.mk (vTyp "code") none (Data.fields (List.toArray [(vStr (strO "rollback") 503), (vStr (strO "Vault.rollback") 504), (vStr (strO "/claim/cut.py") 505), (vInt 132 0), (vInt 1 0), (vInt 0 0), (vInt 0 0), (vInt 3 0), (vRef 259), (Value.bool true), (vInt 181 0), (vRef 260), Value.none, (vRef 261), (vRef 262), (vRef 263), (vInt 507 0), (vInt 132 0), (vStr (strO "/claim/cut.py") 508)])) (List.toArray [])),
  (Obj.mk (vTyp "function") none (Data.func (FuncData.mk (strO "rollback") (strO "Vault.rollback") (fArgs (fdef (fBody (fdef pBody 15)) 12)) (FuncBody.stmts (fBody (fdef (fBody (fdef pBody 15)) 12))) (fScope (fdef (fBody (fdef pBody 15)) 14)) 3 [] Value.none Value.none Value.none (vStr (strO "vault.core") 194) none (vRef 264) Value.none 0)) (List.toArray [])),
  (Obj.mk (vTyp "tuple") none (Data.seq (List.toArray []) 0) (List.toArray [])),
  (Obj.mk Value.none none (Data.fields (List.toArray [])) (List.toArray [])),
  (Obj.mk (vTyp "tuple") none (Data.seq (List.toArray [(vStr (strO "self") 513), (vStr (strO "targets") 514), (vStr (strO "j") 515)]) 0) (List.toArray [])),
  (Obj.mk (vTyp "tuple") none (Data.seq (List.toArray []) 0) (List.toArray [])),
  (Obj.mk Value.none none (Data.func (FuncData.mk (strO "commit") (strO "Vault.commit") (fArgs (fdef (fBody (fdef pBody 15)) 13)) (FuncBody.stmts (fBody (fdef (fBody (fdef pBody 15)) 13))) (fScope (fdef (fBody (fdef pBody 15)) 13)) 0 [] Value.none Value.none Value.none Value.none none Value.none Value.none 0)) (List.toArray [])),
  (Obj.mk (vTyp "code") none (Data.fields (List.toArray [(vStr (strO "commit") 510), (vStr (strO "Vault.commit") 511), (vStr (strO "/claim/cut.py") 512), (vInt 135 0), (vInt 1 0), (vInt 0 0), (vInt 0 0), (vInt 3 0), (vRef 266), (Value.bool true), (vInt 181 0), (vRef 267), Value.none, (vRef 268), (vRef 269), (vRef 270), (vInt 516 0), (vInt 135 0), (vStr (strO "/claim/cut.py") 517)])) (List.toArray [])),
  (Obj.mk (vTyp "function") none (Data.func (FuncData.mk (strO "commit") (strO "Vault.commit") (fArgs (fdef (fBody (fdef pBody 15)) 13)) (FuncBody.stmts (fBody (fdef (fBody (fdef pBody 15)) 13))) (fScope (fdef (fBody (fdef pBody 15)) 13)) 3 [] Value.none Value.none Value.none (vStr (strO "vault.core") 194) none (vRef 271) Value.none 0)) (List.toArray [])),
  (Obj.mk (vTyp "tuple") none (Data.seq (List.toArray []) 0) (List.toArray [])),
  (Obj.mk Value.none none (Data.fields (List.toArray [])) (List.toArray [])),
  (Obj.mk (vTyp "tuple") none (Data.seq (List.toArray [(vStr (strO "self") 522)]) 0) (List.toArray [])),
  (Obj.mk (vTyp "tuple") none (Data.seq (List.toArray []) 0) (List.toArray [])),
  (Obj.mk Value.none none (Data.func (FuncData.mk (strO "pairs") (strO "Vault.pairs") (fArgs (fdef (fBody (fdef pBody 15)) 14)) (FuncBody.stmts (fBody (fdef (fBody (fdef pBody 15)) 14))) (fScope (fdef (fBody (fdef pBody 15)) 14)) 0 [] Value.none Value.none Value.none Value.none none Value.none Value.none 0)) (List.toArray [])),
  (Obj.mk (vTyp "code") none (Data.fields (List.toArray [(vStr (strO "pairs") 519), (vStr (strO "Vault.pairs") 520), (vStr (strO "/claim/cut.py") 521), (vInt 148 0), (vInt 1 0), (vInt 0 0), (vInt 0 0), (vInt 3 0), (vRef 273), (Value.bool true), (vInt 181 0), (vRef 274), Value.none, (vRef 275), (vRef 276), (vRef 277), (vInt 523 0), (vInt 148 0), (vStr (strO "/claim/cut.py") 524)])) (List.toArray [])),
  (Obj.mk (vTyp "function") none (Data.func (FuncData.mk (strO "pairs") (strO "Vault.pairs") (fArgs (fdef (fBody (fdef pBody 15)) 14)) (FuncBody.stmts (fBody (fdef (fBody (fdef pBody 15)) 14))) (fScope (fdef (fBody (fdef pBody 15)) 14)) 3 [] Value.none Value.none Value.none (vStr (strO "vault.core") 194) none (vRef 278) Value.none 0)) (List.toArray [])),
  (Obj.mk (vTyp "tuple") none (Data.seq (List.toArray [(vStr (strO "dead") 526), (vStr (strO "disk") 527), (vStr (strO "log_size") 528), (vStr (strO "slots") 529), (vStr (strO "staged") 530)]) 0) (List.toArray [])),
  (Obj.mk (vTyp "dict") none (Data.dict (List.toArray [(dEnt (kHsh P (strO "__module__")) (vStr (strO "__module__") 398) (vStr (strO "vault.core") 194)), (dEnt (kHsh P (strO "__firstlineno__")) (vStr (strO "__firstlineno__") 402) (vInt 76 401)), (dEnt (kHsh P (strO "__init__")) (vStr (strO "__init__") 412) (vRef 181)), (dEnt (kHsh P (strO "home")) (vStr (strO "home") 420) (vRef 188)), (dEnt (kHsh P (strO "wipe")) (vStr (strO "wipe") 427) (vRef 195)), (dEnt (kHsh P (strO "install")) (vStr (strO "install") 436) (vRef 202)), (dEnt (kHsh P (strO "recover")) (vStr (strO "recover") 443) (vRef 209)), (dEnt (kHsh P (strO "read_slot")) (vStr (strO "read_slot") 452) (vRef 216)), (dEnt (kHsh P (strO "slot_of")) (vStr (strO "slot_of") 460) (vRef 223)), (dEnt (kHsh P (strO "find_free")) (vStr (strO "find_free") 467) (vRef 230)), (dEnt (kHsh P (strO "stage")) (vStr (strO "stage") 477) (vRef 237)), (dEnt (kHsh P (strO "fetch")) (vStr (strO "fetch") 485) (vRef 244)), (dEnt (kHsh P (strO "put")) (vStr (strO "put") 494) (vRef 251)), (dEnt (kHsh P (strO "delete")) (vStr (strO "delete") 502) (vRef 258)), (dEnt (kHsh P (strO "rollback")) (vStr (strO "rollback") 509) (vRef 265)), (dEnt (kHsh P (strO "commit")) (vStr (strO "commit") 518) (vRef 272)), (dEnt (kHsh P (strO "pairs")) (vStr (strO "pairs") 525) (vRef 279)), (dEnt (kHsh P (strO "__static_attributes__")) (vStr (strO "__static_attributes__") 531) (vRef 280)), (dEnt (kHsh P (strO "__dict__")) (vStr (strO "__dict__") 533) (vRef 283)), (dEnt (kHsh P (strO "__weakref__")) (vStr (strO "__weakref__") 535) (vRef 284)), (dEnt (kHsh P (strO "__doc__")) (vStr (strO "__doc__") 536) Value.none)]) 4) (List.toArray [])),
  (Obj.mk (vTyp "type") none (Data.cls (ClassData.mk (strO "Vault") [(vTyp "object")] [(vRef 282), (vTyp "object")] 281 (strO "Vault") true [] [] false none false)) (List.toArray [none, none, (some (vStr (strO "Vault") 391)), (some (vStr (strO "Vault") 399)), (some (Value.builtin "object.__new__")), (some (Value.bool true))])),
  (Obj.mk (vTyp "getset_descriptor") none (Data.fields (List.toArray [(vStr (strO "__dict__") 532), (vRef 282), (Value.builtin "function.__dict__"), (Value.builtin "function.__dict__#set")])) (List.toArray [])),
  (Obj.mk (vTyp "getset_descriptor") none (Data.fields (List.toArray [(vStr (strO "__weakref__") 534), (vRef 282), (Value.builtin "ExceptionGroup.__weakref__"), Value.none])) (List.toArray [])),
  (Obj.mk (vTyp "super") none (Data.fields (List.toArray [(vRef 282), (vRef 282), (vRef 282)])) (List.toArray [])),
  (Obj.mk (vTyp "builtin_function_or_method") none (Data.fields (List.toArray [(Value.builtin "object.__init_subclass__"), (vRef 282)])) (List.toArray []))]

noncomputable def obC (P : Params) : List Obj := obCa P ++ (obCb P ++ (obCc P))

noncomputable def obDa (P : Params) : List Obj := [
  (Obj.mk (vTyp "tuple") none (Data.seq (List.toArray [(vInt 0 541), (vInt 1 542), (vInt 2 543), (vInt 3 544), (vInt 127 545), (vInt 128 546), (vInt 254 547), (vInt 255 548)]) 0) (List.toArray [])),
  (Obj.mk (vTyp "tuple") none (Data.seq (List.toArray [(vInt 0 550), (vInt 1 551), (vInt 2 552), (vInt 3 553), (vInt 13 554), (vInt 14 555), (vInt 15 556), (vInt 255 557), (vInt 256 558), (vInt (-1) 560)]) 0) (List.toArray [])),
  (Obj.mk (vTyp "tuple") none (Data.seq (List.toArray []) 0) (List.toArray [])),
  (Obj.mk Value.none none (Data.fields (List.toArray [])) (List.toArray [])),
  (Obj.mk (vTyp "tuple") none (Data.seq (List.toArray [(vStr (strO "a") 565), (vStr (strO "b") 566), (vStr (strO "c") 567), (vStr (strO "d") 568)]) 0) (List.toArray [])),
  (Obj.mk (vTyp "tuple") none (Data.seq (List.toArray []) 0) (List.toArray [])),
  (Obj.mk Value.none none (Data.func (FuncData.mk (strO "_law_four") (strO "_law_four") (fArgs (fdef pBody 19)) (FuncBody.stmts (fBody (fdef pBody 19))) (fScope (fdef pBody 19)) 0 [] Value.none Value.none Value.none Value.none none Value.none Value.none 0)) (List.toArray [])),
  (Obj.mk (vTyp "code") none (Data.fields (List.toArray [(vStr (strO "_law_four") 562), (vStr (strO "_law_four") 563), (vStr (strO "/claim/cut.py") 564), (vInt 153 0), (vInt 4 0), (vInt 0 0), (vInt 0 0), (vInt 3 0), (vRef 289), (Value.bool true), (vInt 181 0), (vRef 290), Value.none, (vRef 291), (vRef 292), (vRef 293), (vInt 569 0), (vInt 153 0), (vStr (strO "/claim/cut.py") 570)])) (List.toArray [])),
  (Obj.mk (vTyp "function") none (Data.func (FuncData.mk (strO "_law_four") (strO "_law_four") (fArgs (fdef pBody 19)) (FuncBody.stmts (fBody (fdef pBody 19))) (fScope (fdef pBody 19)) 3 [] Value.none Value.none Value.none (vStr (strO "law_sx_yvault_1") 539) none (vRef 294) Value.none 0)) (List.toArray [])),
  (Obj.mk (vTyp "tuple") none (Data.seq (List.toArray []) 0) (List.toArray [])),
  (Obj.mk Value.none none (Data.fields (List.toArray [])) (List.toArray [])),
  (Obj.mk (vTyp "tuple") none (Data.seq (List.toArray [(vStr (strO "four") 575)]) 0) (List.toArray [])),
  (Obj.mk (vTyp "tuple") none (Data.seq (List.toArray []) 0) (List.toArray [])),
  (Obj.mk Value.none none (Data.func (FuncData.mk (strO "_law_number") (strO "_law_number") (fArgs (fdef pBody 20)) (FuncBody.stmts (fBody (fdef pBody 20))) (fScope (fdef pBody 20)) 0 [] Value.none Value.none Value.none Value.none none Value.none Value.none 0)) (List.toArray [])),
  (Obj.mk (vTyp "code") none (Data.fields (List.toArray [(vStr (strO "_law_number") 572), (vStr (strO "_law_number") 573), (vStr (strO "/claim/cut.py") 574), (vInt 155 0), (vInt 1 0), (vInt 0 0), (vInt 0 0), (vInt 3 0), (vRef 296), (Value.bool true), (vInt 181 0), (vRef 297), Value.none, (vRef 298), (vRef 299), (vRef 300), (vInt 576 0), (vInt 155 0), (vStr (strO "/claim/cut.py") 577)])) (List.toArray [])),
  (Obj.mk (vTyp "function") none (Data.func (FuncData.mk (strO "_law_number") (strO "_law_number") (fArgs (fdef pBody 20)) (FuncBody.stmts (fBody (fdef pBody 20))) (fScope (fdef pBody 20)) 3 [] Value.none Value.none Value.none (vStr (strO "law_sx_yvault_1") 539) none (vRef 301) Value.none 0)) (List.toArray [])),
  (Obj.mk (vTyp "tuple") none (Data.seq (List.toArray []) 0) (List.toArray [])),
  (Obj.mk Value.none none (Data.fields (List.toArray [])) (List.toArray [])),
  (Obj.mk (vTyp "tuple") none (Data.seq (List.toArray [(vStr (strO "body") 582), (vStr (strO "whole") 583)]) 0) (List.toArray [])),
  (Obj.mk (vTyp "tuple") none (Data.seq (List.toArray []) 0) (List.toArray [])),
  (Obj.mk Value.none none (Data.func (FuncData.mk (strO "_law_seal") (strO "_law_seal") (fArgs (fdef pBody 21)) (FuncBody.stmts (fBody (fdef pBody 21))) (fScope (fdef pBody 21)) 0 [] Value.none Value.none Value.none Value.none none Value.none Value.none 0)) (List.toArray [])),
  (Obj.mk (vTyp "code") none (Data.fields (List.toArray [(vStr (strO "_law_seal") 579), (vStr (strO "_law_seal") 580), (vStr (strO "/claim/cut.py") 581), (vInt 157 0), (vInt 1 0), (vInt 0 0), (vInt 0 0), (vInt 3 0), (vRef 303), (Value.bool true), (vInt 181 0), (vRef 304), Value.none, (vRef 305), (vRef 306), (vRef 307), (vInt 584 0), (vInt 157 0), (vStr (strO "/claim/cut.py") 585)])) (List.toArray [])),
  (Obj.mk (vTyp "function") none (Data.func (FuncData.mk (strO "_law_seal") (strO "_law_seal") (fArgs (fdef pBody 21)) (FuncBody.stmts (fBody (fdef pBody 21))) (fScope (fdef pBody 21)) 3 [] Value.none Value.none Value.none (vStr (strO "law_sx_yvault_1") 539) none (vRef 308) Value.none 0)) (List.toArray [])),
  (Obj.mk (vTyp "tuple") none (Data.seq (List.toArray []) 0) (List.toArray [])),
  (Obj.mk Value.none none (Data.fields (List.toArray [])) (List.toArray [])),
  (Obj.mk (vTyp "tuple") none (Data.seq (List.toArray [(vStr (strO "good") 590), (vStr (strO "kind") 591), (vStr (strO "place") 592), (vStr (strO "item") 593), (vStr (strO "bent") 594)]) 0) (List.toArray [])),
  (Obj.mk (vTyp "tuple") none (Data.seq (List.toArray []) 0) (List.toArray [])),
  (Obj.mk Value.none none (Data.func (FuncData.mk (strO "_law_damage") (strO "_law_damage") (fArgs (fdef pBody 22)) (FuncBody.stmts (fBody (fdef pBody 22))) (fScope (fdef pBody 22)) 0 [] Value.none Value.none Value.none Value.none none Value.none Value.none 0)) (List.toArray [])),
  (Obj.mk (vTyp "code") none (Data.fields (List.toArray [(vStr (strO "_law_damage") 587), (vStr (strO "_law_damage") 588), (vStr (strO "/claim/cut.py") 589), (vInt 160 0), (vInt 4 0), (vInt 0 0), (vInt 0 0), (vInt 3 0), (vRef 310), (Value.bool true), (vInt 181 0), (vRef 311), Value.none, (vRef 312), (vRef 313), (vRef 314), (vInt 595 0), (vInt 160 0), (vStr (strO "/claim/cut.py") 596)])) (List.toArray [])),
  (Obj.mk (vTyp "function") none (Data.func (FuncData.mk (strO "_law_damage") (strO "_law_damage") (fArgs (fdef pBody 22)) (FuncBody.stmts (fBody (fdef pBody 22))) (fScope (fdef pBody 22)) 3 [] Value.none Value.none Value.none (vStr (strO "law_sx_yvault_1") 539) none (vRef 315) Value.none 0)) (List.toArray [])),
  (Obj.mk (vTyp "tuple") none (Data.seq (List.toArray []) 0) (List.toArray [])),
  (Obj.mk Value.none none (Data.fields (List.toArray [])) (List.toArray [])),
  (Obj.mk (vTyp "tuple") none (Data.seq (List.toArray [(vStr (strO "block") 601)]) 0) (List.toArray [])),
  (Obj.mk (vTyp "tuple") none (Data.seq (List.toArray []) 0) (List.toArray [])),
  (Obj.mk Value.none none (Data.func (FuncData.mk (strO "_law_whole") (strO "_law_whole") (fArgs (fdef pBody 23)) (FuncBody.stmts (fBody (fdef pBody 23))) (fScope (fdef pBody 23)) 0 [] Value.none Value.none Value.none Value.none none Value.none Value.none 0)) (List.toArray [])),
  (Obj.mk (vTyp "code") none (Data.fields (List.toArray [(vStr (strO "_law_whole") 598), (vStr (strO "_law_whole") 599), (vStr (strO "/claim/cut.py") 600), (vInt 169 0), (vInt 1 0), (vInt 0 0), (vInt 0 0), (vInt 3 0), (vRef 317), (Value.bool true), (vInt 181 0), (vRef 318), Value.none, (vRef 319), (vRef 320), (vRef 321), (vInt 602 0), (vInt 169 0), (vStr (strO "/claim/cut.py") 603)])) (List.toArray [])),
  (Obj.mk (vTyp "function") none (Data.func (FuncData.mk (strO "_law_whole") (strO "_law_whole") (fArgs (fdef pBody 23)) (FuncBody.stmts (fBody (fdef pBody 23))) (fScope (fdef pBody 23)) 3 [] Value.none Value.none Value.none (vStr (strO "law_sx_yvault_1") 539) none (vRef 322) Value.none 0)) (List.toArray [])),
  (Obj.mk (vTyp "tuple") none (Data.seq (List.toArray []) 0) (List.toArray [])),
  (Obj.mk Value.none none (Data.fields (List.toArray [])) (List.toArray [])),
  (Obj.mk (vTyp "tuple") none (Data.seq (List.toArray [(vStr (strO "block") 608)]) 0) (List.toArray []))]

noncomputable def obDb (P : Params) : List Obj := [
  (Obj.mk (vTyp "tuple") none (Data.seq (List.toArray []) 0) (List.toArray [])),
  (Obj.mk Value.none none (Data.func (FuncData.mk (strO "_law_slot_due") (strO "_law_slot_due") (fArgs (fdef pBody 24)) (FuncBody.stmts (fBody (fdef pBody 24))) (fScope (fdef pBody 24)) 0 [] Value.none Value.none Value.none Value.none none Value.none Value.none 0)) (List.toArray [])),
  (Obj.mk (vTyp "code") none (Data.fields (List.toArray [(vStr (strO "_law_slot_due") 605), (vStr (strO "_law_slot_due") 606), (vStr (strO "/claim/cut.py") 607), (vInt 173 0), (vInt 1 0), (vInt 0 0), (vInt 0 0), (vInt 3 0), (vRef 324), (Value.bool true), (vInt 181 0), (vRef 325), Value.none, (vRef 326), (vRef 327), (vRef 328), (vInt 609 0), (vInt 173 0), (vStr (strO "/claim/cut.py") 610)])) (List.toArray [])),
  (Obj.mk (vTyp "function") none (Data.func (FuncData.mk (strO "_law_slot_due") (strO "_law_slot_due") (fArgs (fdef pBody 24)) (FuncBody.stmts (fBody (fdef pBody 24))) (fScope (fdef pBody 24)) 3 [] Value.none Value.none Value.none (vStr (strO "law_sx_yvault_1") 539) none (vRef 329) Value.none 0)) (List.toArray [])),
  (Obj.mk (vTyp "tuple") none (Data.seq (List.toArray []) 0) (List.toArray [])),
  (Obj.mk Value.none none (Data.fields (List.toArray [])) (List.toArray [])),
  (Obj.mk (vTyp "tuple") none (Data.seq (List.toArray [(vStr (strO "block") 615)]) 0) (List.toArray [])),
  (Obj.mk (vTyp "tuple") none (Data.seq (List.toArray []) 0) (List.toArray [])),
  (Obj.mk Value.none none (Data.func (FuncData.mk (strO "_law_header_due") (strO "_law_header_due") (fArgs (fdef pBody 25)) (FuncBody.stmts (fBody (fdef pBody 25))) (fScope (fdef pBody 25)) 0 [] Value.none Value.none Value.none Value.none none Value.none Value.none 0)) (List.toArray [])),
  (Obj.mk (vTyp "code") none (Data.fields (List.toArray [(vStr (strO "_law_header_due") 612), (vStr (strO "_law_header_due") 613), (vStr (strO "/claim/cut.py") 614), (vInt 179 0), (vInt 1 0), (vInt 0 0), (vInt 0 0), (vInt 3 0), (vRef 331), (Value.bool true), (vInt 181 0), (vRef 332), Value.none, (vRef 333), (vRef 334), (vRef 335), (vInt 616 0), (vInt 179 0), (vStr (strO "/claim/cut.py") 617)])) (List.toArray [])),
  (Obj.mk (vTyp "function") none (Data.func (FuncData.mk (strO "_law_header_due") (strO "_law_header_due") (fArgs (fdef pBody 25)) (FuncBody.stmts (fBody (fdef pBody 25))) (fScope (fdef pBody 25)) 3 [] Value.none Value.none Value.none (vStr (strO "law_sx_yvault_1") 539) none (vRef 336) Value.none 0)) (List.toArray [])),
  (Obj.mk (vTyp "tuple") none (Data.seq (List.toArray []) 0) (List.toArray [])),
  (Obj.mk Value.none none (Data.fields (List.toArray [])) (List.toArray [])),
  (Obj.mk Value.none none (Data.func (FuncData.mk (strO "_law_same") (strO "_law_same") (fArgs (fdef pBody 26)) (FuncBody.stmts (fBody (fdef pBody 26))) (fScope (fdef pBody 26)) 0 [] Value.none Value.none Value.none Value.none none Value.none Value.none 0)) (List.toArray [])),
  (Obj.mk (vTyp "code") none (Data.fields (List.toArray [(vStr (strO "_law_same") 619), (vStr (strO "_law_same") 620), (vStr (strO "/claim/cut.py") 621), (vInt 183 0), (vInt 2 0), (vInt 0 0), (vInt 0 0), (vInt 3 0), (vRef 338), (Value.bool true), (vInt 181 0), (vRef 339), Value.none, Value.none, Value.none, (vRef 340), (vInt 622 0), (vInt 183 0), (vStr (strO "/claim/cut.py") 623)])) (List.toArray [])),
  (Obj.mk (vTyp "function") none (Data.func (FuncData.mk (strO "_law_same") (strO "_law_same") (fArgs (fdef pBody 26)) (FuncBody.stmts (fBody (fdef pBody 26))) (fScope (fdef pBody 26)) 3 [] Value.none Value.none Value.none (vStr (strO "law_sx_yvault_1") 539) none (vRef 341) Value.none 0)) (List.toArray [])),
  (Obj.mk (vTyp "tuple") none (Data.seq (List.toArray []) 0) (List.toArray [])),
  (Obj.mk Value.none none (Data.fields (List.toArray [])) (List.toArray [])),
  (Obj.mk (vTyp "tuple") none (Data.seq (List.toArray [(vStr (strO "block") 628), (vStr (strO "got") 629)]) 0) (List.toArray [])),
  (Obj.mk (vTyp "tuple") none (Data.seq (List.toArray []) 0) (List.toArray [])),
  (Obj.mk Value.none none (Data.func (FuncData.mk (strO "_law_slot_read") (strO "_law_slot_read") (fArgs (fdef pBody 27)) (FuncBody.stmts (fBody (fdef pBody 27))) (fScope (fdef pBody 27)) 0 [] Value.none Value.none Value.none Value.none none Value.none Value.none 0)) (List.toArray [])),
  (Obj.mk (vTyp "code") none (Data.fields (List.toArray [(vStr (strO "_law_slot_read") 625), (vStr (strO "_law_slot_read") 626), (vStr (strO "/claim/cut.py") 627), (vInt 187 0), (vInt 1 0), (vInt 0 0), (vInt 0 0), (vInt 3 0), (vRef 343), (Value.bool true), (vInt 181 0), (vRef 344), Value.none, (vRef 345), (vRef 346), (vRef 347), (vInt 630 0), (vInt 187 0), (vStr (strO "/claim/cut.py") 631)])) (List.toArray [])),
  (Obj.mk (vTyp "function") none (Data.func (FuncData.mk (strO "_law_slot_read") (strO "_law_slot_read") (fArgs (fdef pBody 27)) (FuncBody.stmts (fBody (fdef pBody 27))) (fScope (fdef pBody 27)) 3 [] Value.none Value.none Value.none (vStr (strO "law_sx_yvault_1") 539) none (vRef 348) Value.none 0)) (List.toArray [])),
  (Obj.mk (vTyp "tuple") none (Data.seq (List.toArray []) 0) (List.toArray [])),
  (Obj.mk Value.none none (Data.fields (List.toArray [])) (List.toArray [])),
  (Obj.mk (vTyp "tuple") none (Data.seq (List.toArray [(vStr (strO "block") 636), (vStr (strO "got") 637)]) 0) (List.toArray [])),
  (Obj.mk (vTyp "tuple") none (Data.seq (List.toArray []) 0) (List.toArray [])),
  (Obj.mk Value.none none (Data.func (FuncData.mk (strO "_law_header_read") (strO "_law_header_read") (fArgs (fdef pBody 28)) (FuncBody.stmts (fBody (fdef pBody 28))) (fScope (fdef pBody 28)) 0 [] Value.none Value.none Value.none Value.none none Value.none Value.none 0)) (List.toArray [])),
  (Obj.mk (vTyp "code") none (Data.fields (List.toArray [(vStr (strO "_law_header_read") 633), (vStr (strO "_law_header_read") 634), (vStr (strO "/claim/cut.py") 635), (vInt 193 0), (vInt 1 0), (vInt 0 0), (vInt 0 0), (vInt 3 0), (vRef 350), (Value.bool true), (vInt 181 0), (vRef 351), Value.none, (vRef 352), (vRef 353), (vRef 354), (vInt 638 0), (vInt 193 0), (vStr (strO "/claim/cut.py") 639)])) (List.toArray [])),
  (Obj.mk (vTyp "function") none (Data.func (FuncData.mk (strO "_law_header_read") (strO "_law_header_read") (fArgs (fdef pBody 28)) (FuncBody.stmts (fBody (fdef pBody 28))) (fScope (fdef pBody 28)) 3 [] Value.none Value.none Value.none (vStr (strO "law_sx_yvault_1") 539) none (vRef 355) Value.none 0)) (List.toArray [])),
  (Obj.mk (vTyp "tuple") none (Data.seq (List.toArray []) 0) (List.toArray [])),
  (Obj.mk Value.none none (Data.fields (List.toArray [])) (List.toArray [])),
  (Obj.mk (vTyp "tuple") none (Data.seq (List.toArray [(vStr (strO "store") 644), (vStr (strO "homes") 645), (vStr (strO "i") 646), (vStr (strO "got") 647)]) 0) (List.toArray [])),
  (Obj.mk (vTyp "tuple") none (Data.seq (List.toArray []) 0) (List.toArray [])),
  (Obj.mk Value.none none (Data.func (FuncData.mk (strO "_law_store_tells") (strO "_law_store_tells") (fArgs (fdef pBody 29)) (FuncBody.stmts (fBody (fdef pBody 29))) (fScope (fdef pBody 29)) 0 [] Value.none Value.none Value.none Value.none none Value.none Value.none 0)) (List.toArray [])),
  (Obj.mk (vTyp "code") none (Data.fields (List.toArray [(vStr (strO "_law_store_tells") 641), (vStr (strO "_law_store_tells") 642), (vStr (strO "/claim/cut.py") 643), (vInt 199 0), (vInt 2 0), (vInt 0 0), (vInt 0 0), (vInt 3 0), (vRef 357), (Value.bool true), (vInt 181 0), (vRef 358), Value.none, (vRef 359), (vRef 360), (vRef 361), (vInt 648 0), (vInt 199 0), (vStr (strO "/claim/cut.py") 649)])) (List.toArray [])),
  (Obj.mk (vTyp "function") none (Data.func (FuncData.mk (strO "_law_store_tells") (strO "_law_store_tells") (fArgs (fdef pBody 29)) (FuncBody.stmts (fBody (fdef pBody 29))) (fScope (fdef pBody 29)) 3 [] Value.none Value.none Value.none (vStr (strO "law_sx_yvault_1") 539) none (vRef 362) Value.none 0)) (List.toArray [])),
  (Obj.mk (vTyp "tuple") none (Data.seq (List.toArray []) 0) (List.toArray [])),
  (Obj.mk Value.none none (Data.fields (List.toArray [])) (List.toArray [])),
  (Obj.mk Value.none none (Data.func (FuncData.mk (strO "_law_staged") (strO "_law_staged") (fArgs (fdef pBody 30)) (FuncBody.stmts (fBody (fdef pBody 30))) (fScope (fdef pBody 30)) 0 [] Value.none Value.none Value.none Value.none none Value.none Value.none 0)) (List.toArray []))]

noncomputable def obDc (P : Params) : List Obj := [
  (Obj.mk (vTyp "code") none (Data.fields (List.toArray [(vStr (strO "_law_staged") 651), (vStr (strO "_law_staged") 652), (vStr (strO "/claim/cut.py") 653), (vInt 208 0), (vInt 3 0), (vInt 0 0), (vInt 0 0), (vInt 3 0), (vRef 364), (Value.bool true), (vInt 181 0), (vRef 365), Value.none, Value.none, Value.none, (vRef 366), (vInt 654 0), (vInt 208 0), (vStr (strO "/claim/cut.py") 655)])) (List.toArray [])),
  (Obj.mk (vTyp "function") none (Data.func (FuncData.mk (strO "_law_staged") (strO "_law_staged") (fArgs (fdef pBody 30)) (FuncBody.stmts (fBody (fdef pBody 30))) (fScope (fdef pBody 30)) 3 [] Value.none Value.none Value.none (vStr (strO "law_sx_yvault_1") 539) none (vRef 367) Value.none 0)) (List.toArray [])),
  (Obj.mk (vTyp "tuple") none (Data.seq (List.toArray []) 0) (List.toArray [])),
  (Obj.mk Value.none none (Data.fields (List.toArray [])) (List.toArray [])),
  (Obj.mk Value.none none (Data.func (FuncData.mk (strO "law") (strO "law") (fArgs (fdef pBody 31)) (FuncBody.stmts (fBody (fdef pBody 31))) (fScope (fdef pBody 31)) 0 [] Value.none Value.none Value.none Value.none none Value.none Value.none 0)) (List.toArray [])),
  (Obj.mk (vTyp "code") none (Data.fields (List.toArray [(vStr (strO "law") 657), (vStr (strO "law") 658), (vStr (strO "/claim/cut.py") 659), (vInt 212 0), (vInt 1 0), (vInt 0 0), (vInt 0 0), (vInt 3 0), (vRef 369), (Value.bool true), (vInt 181 0), (vRef 370), Value.none, Value.none, Value.none, (vRef 371), (vInt 660 0), (vInt 212 0), (vStr (strO "/claim/cut.py") 661)])) (List.toArray [])),
  (Obj.mk (vTyp "function") none (Data.func (FuncData.mk (strO "law") (strO "law") (fArgs (fdef pBody 31)) (FuncBody.stmts (fBody (fdef pBody 31))) (fScope (fdef pBody 31)) 3 [] Value.none Value.none Value.none (vStr (strO "law_sx_yvault_1") 539) none (vRef 372) Value.none 0)) (List.toArray []))]

noncomputable def obD (P : Params) : List Obj := obDa P ++ (obDb P ++ (obDc P))

/-- the heap behind the top, and at places on the way -/
noncomputable def obsK (P : Params) : List Obj := obA P ++ (obB P ++ (obC P ++ obD P))
noncomputable def lifeK : Life := Life.mk [] [] [] 0 [] [] false #[] [] 0 false false false 0 [2000, 10, 10] false 0 true [] [] 0 false
noncomputable def heap0 (P : Params) : Heap := ⟨⟨obA0 P⟩, lifeK⟩
noncomputable def heapM (P : Params) : Heap := ⟨⟨obAm P ++ obM P⟩, lifeK⟩
noncomputable def heap1 (P : Params) : Heap := ⟨⟨obA1 P ++ obB P⟩, lifeK⟩
noncomputable def heap2 (P : Params) : Heap := ⟨⟨obA2 P ++ (obB P ++ obC P)⟩, lifeK⟩
noncomputable def heapE (P : Params) : Heap := ⟨⟨obsK P⟩, lifeK⟩
noncomputable def nthO : List Obj → Nat → Obj
  | [], _ => default
  | o :: _, 0 => o
  | _ :: r, n + 1 => nthO r n
noncomputable def adrL : List Addr := [2, 3, 15, 17, 18, 20, 21, 22, 29, 30, 31, 32, 35, 42, 43, 44, 45, 48, 55, 56, 57, 58, 61, 68, 69, 70, 71, 74, 76, 77, 79, 80, 81, 83, 84, 86, 87, 88, 90, 91, 93, 94, 95, 97, 98, 100, 101, 102, 104, 105, 107, 108, 109, 111, 112, 114, 115, 116, 118, 119, 121, 122, 123, 125, 126, 128, 129, 137, 140, 141, 142, 144, 145, 147, 148, 149, 151, 152, 154, 155, 156, 159, 160, 161, 162, 163, 164, 165, 175, 177, 178, 180, 181, 182, 184, 185, 187, 188, 189, 191, 192, 194, 195, 196, 198, 199, 201, 202, 203, 205, 206, 208, 209, 210, 212, 213, 215, 216, 217, 219, 220, 222, 223, 224, 226, 227, 229, 230, 231, 233, 234, 236, 237, 238, 240, 241, 243, 244, 245, 247, 248, 250, 251, 252, 254, 255, 257, 258, 259, 261, 262, 264, 265, 266, 268, 269, 271, 272, 273, 275, 276, 278, 279, 280, 281, 282, 283, 284, 287, 288, 289, 291, 292, 294, 295, 296, 298, 299, 301, 302, 303, 305, 306, 308, 309, 310, 312, 313, 315, 316, 317, 319, 320, 322, 323, 324, 326, 327, 329, 330, 331, 333, 334, 336, 337, 338, 341, 342, 343, 345, 346, 348, 349, 350, 352, 353, 355, 356, 357, 359, 360, 362, 363, 364, 367, 368, 369, 372, 373]
noncomputable def heapK (P : Params) : Frag := adrL.map fun a => (a, nthO (obsK P) a)
noncomputable def qv : Program := view PySem.Challenge.rw_sx_yvault_1.prog [0, 2, 3, 4, 5, 6, 7, 8, 9, 10, 11, 12, 13, 14, 15, 17, 18, 19, 20, 21, 22, 23, 24, 25, 26, 27, 28, 29, 30, 31]
noncomputable def lawD : DefRec := ⟨Str.ofString "law", fArgs (fdef pBody 31), fBody (fdef pBody 31), fScope (fdef pBody 31), fPos (fdef pBody 31)⟩
theorem asK (P : Params) : adrL = (heapK P).map (·.1) := by kernel_rfl
noncomputable def hkK : Hook := kHook heapK adrL asK
/-- the run of the top, in four pieces -/
noncomputable def pgK : Program := PySem.Challenge.rw_sx_yvault_1.row.toRowW.1
noncomputable def envK : Env := Env.mk (Module.scope (Program.main PySem.Challenge.rw_sx_yvault_1.row.toRowW.1)) mainNs mainNs [] Str.empty none (.ref 13) (some 14) 0
noncomputable def codK : Code := .body (behindTheImports PySem.Challenge.rw_sx_yvault_1.row.toRowW.1) envK
abbrev stK (h : Params → Heap) (t : Nat) (w : World) (os : OsState) : Shared := ⟨h w.params, #[], ⟨0, 0, 0, 0⟩, t, os⟩
theorem run0 (w : World) (os : OsState) : topGo treeTable pgK w 11 (some (.ref 6)) 12 ⟨boot_heap w.params, #[], boot_drawn, boot_toks, os⟩ (topStub pgK) = some (stK heap0 187 w os, ⟨denote treeTable codK, codK, ⟨0, 0, 0, 0⟩, [topFrame ⟨0, 0, 0, 0⟩]⟩) := by kernel_rfl
theorem runB (w : World) (os : OsState) : segRun treeTable pgK w 11 (some (.ref 6)) 1 1 (stK heap0 187 w os) (blockOf (behindTheImports PySem.Challenge.rw_sx_yvault_1.row.toRowW.1) envK codK ⟨0, 0, 0, 0⟩ [topFrame ⟨0, 0, 0, 0⟩]) = some (.next, stK heap0 187 w os, codK, ⟨0, 0, 0, 0⟩) := by kernel_rfl
theorem run1 (w : World) (os : OsState) : segRun treeTable pgK w 11 (some (.ref 6)) 1 1002 (stK heap0 187 w os) (piecesOf (pBody.take 12) envK codK ⟨0, 0, 0, 0⟩ [topFrame ⟨0, 0, 0, 0⟩]) = some (.next, stK heapM 323 w os, codK, ⟨31, 0, 43, 84⟩) := by kernel_rfl
theorem runM (w : World) (os : OsState) : segRun treeTable pgK w 11 (some (.ref 6)) 1 374 (stK heapM 323 w os) (piecesOf ((pBody.drop 12).take 3) envK codK ⟨31, 0, 43, 84⟩ [topFrame ⟨0, 0, 0, 0⟩]) = some (.next, stK heap1 391 w os, codK, ⟨56, 0, 75, 45⟩) := by kernel_rfl
theorem run2 (w : World) (os : OsState) : segRun treeTable pgK w 11 (some (.ref 6)) 1 678 (stK heap1 391 w os) (piecesOf ((pBody.drop 15).take 1) envK codK ⟨56, 0, 75, 45⟩ [topFrame ⟨0, 0, 0, 0⟩]) = some (.next, stK heap2 539 w os, codK, ⟨76, 0, 149, 16⟩) := by kernel_rfl
theorem run3 (w : World) (os : OsState) : segRun treeTable pgK w 11 (some (.ref 6)) 1 434 (stK heap2 539 w os) (piecesOf (pBody.drop 16) envK codK ⟨76, 0, 149, 16⟩ [topFrame ⟨0, 0, 0, 0⟩]) = some (.next, stK heapE 663 w os, codK, ⟨212, 0, 286, 15⟩) := by kernel_rfl
theorem runE (w : World) (os : OsState) : topRun treeTable pgK w 11 (some (.ref 6)) 2 (stK heapE 663 w os) ⟨doneF .next, codK, ⟨212, 0, 286, 15⟩, [topFrame ⟨0, 0, 0, 0⟩]⟩ = some (stK heapE 663 w os) := by kernel_rfl
theorem bodyK : pBody.take 12 ++ ((pBody.drop 12).take 3 ++ ((pBody.drop 15).take 1 ++ (pBody.drop 16 ++ []))) = behindTheImports PySem.Challenge.rw_sx_yvault_1.row.toRowW.1 := by kernel_rfl
theorem hd_run (w : World) (os : OsState) : topRun treeTable PySem.Challenge.rw_sx_yvault_1.row.toRowW.1 w 11 (some (.ref 6)) (12 + (1 + (1002 + (374 + (678 + (434 + 2)))))) ⟨boot_heap w.params, #[], boot_drawn, boot_toks, os⟩ (topStub PySem.Challenge.rw_sx_yvault_1.row.toRowW.1) = some ⟨heapE w.params, #[], ⟨0, 0, 0, 0⟩, 663, os⟩ := by
  have k := piece_app (run1 w os) (piece_app (runM w os) (piece_app (run2 w os) (piece_app (run3 w os) (piece_nil (runE w os)))))
  rw [bodyK] at k
  exact go_top (run0 w os) (piece_block (runB w os) k)

theorem hd_l1 (w : World) (os : OsState) : (staticsOk (importedModules PySem.Challenge.rw_sx_yvault_1.row.toRowW.1.main.body) (boot_heap w.params) (heapE w.params) && namesBound PySem.Challenge.rw_sx_yvault_1.row.toRowW.1 (heapE w.params) && gensDone ⟨heapE w.params, #[], ⟨0, 0, 0, 0⟩, 663, os⟩ && laidKept (boot_heap w.params) (heapE w.params)) = true := by
  kernel_rfl
theorem hd_l2 (w : World) (os : OsState) : openSeen qv [] (importedModules PySem.Challenge.rw_sx_yvault_1.row.toRowW.1.main.body) (fun s => xlAt qv [] s && recOk (RowW.records PySem.Challenge.rw_sx_yvault_1.row.toRowW) s) true ⟨heapE w.params, #[], ⟨0, 0, 0, 0⟩, 663, os⟩ = openGood qv [] := by
  kernel_rfl
theorem hd_l3 (w : World) (os : OsState) : hkK.obs ⟨heapE w.params, #[], ⟨0, 0, 0, 0⟩, 663, os⟩ = hkK.val w := by
  kernel_rfl
theorem hd_left : LeftO PySem.Challenge.rw_sx_yvault_1.row.toRowW.1 qv [] (fun s => xlAt qv [] s && recOk (RowW.records PySem.Challenge.rw_sx_yvault_1.row.toRowW) s) hkK.obs hkK.val 5094 :=
  LeftO.of_pieces (H₀ := boot_heap) (H₁ := heapE) (gs₀ := #[]) (gs₁ := #[]) (d₀ := boot_drawn) (d₁ := ⟨0, 0, 0, 0⟩) (k₀ := boot_toks) (k₁ := 663) (m₀ := 11) (ann := some (.ref 6)) (M := 12 + (1 + (1002 + (374 + (678 + (434 + 2))))))
    (boot_open (by rfl) (by decide) fun _ => rfl) (fun w => by kernel_rfl) hd_run (by decide) fun w => funext fun os => by rw [hd_l1, hd_l2, hd_l3]
theorem hd (walk : WalkO qv [] (XL qv []) hkK.says PySem.Challenge.rw_sx_yvault_1.row.toRowW lawD [] fun f vs => PySem.call f vs) : PySem.Challenge.rw_sx_yvault_1.Holds := by
  refine holds_law ?ok fun said => holds_open (Xt := fun s => xlAt qv [] s && recOk (RowW.records PySem.Challenge.rw_sx_yvault_1.row.toRowW) s) (N := 5094) hd_left (Hook.of _) (Hook.keeps _) (fun s e => xl_of s (Bool.and_eq_true_iff.mp e).1) XL.keeps (by kernel_rfl) (by kernel_rfl) (by rfl) (fun s e => recFacts_of (Bool.and_eq_true_iff.mp e).2) (by rfl) said (by decide +kernel) ⟨rfl, rfl, rfl, rfl, rfl, by decide +kernel⟩ ?hw walk
  case ok => kernel_rfl
  case hw => w_witness2
end YV
end

section
set_option autoImplicit false
set_option genInjectivity false
set_option genSizeOfSpec false
namespace YV
open PySem

theorem byQ {P : Prop} (h : ∀ Q : Prop, (P → Q) → Q) : P := h P id

/-- plain Python data, as the law's code handles it -/
inductive D where
  | none
  | bool (b : Bool)
  | int (i : Int)
  | str (s : Str)
  | tup (ds : List D)
  | lst (ds : List D)
  | mref (i : Nat)
  | inst (C : Addr) (i : Nat)
  | glob (a : Addr)
  | ty (n : String)
  | bi (id : String)
  | rng (n : Nat)
  | dct (es : List (Int × D))


/-- a mutable object: a list, or the dict of an object -/
inductive AObj where
  | lst (ds : List D)
  | dict (fs : List (Str × D))
  | dic (es : List (Int × D))


abbrev listO (vs : List Value) (n : Nat) : Obj := { cls := .type "list", data := .seq vs.toArray n }
abbrev tupO (vs : List Value) (n : Nat) : Obj := { cls := .type "tuple", data := .seq vs.toArray n }
abbrev instO (C dx : Addr) : Obj := { cls := .ref C, dict := some dx, data := .plain }
abbrev dictO (es : List DictEntry) (n : Nat) : Obj := { cls := .type "dict", data := .dict es.toArray n }

abbrev rngO (k : Int) (t u v : Tok) : Obj := { cls := .type "range", data := .fields #[.int 0 t, .int k u, .int 1 v] }

mutual
inductive Rep (h : Heap) (μ : List Addr) : Value → D → Prop where
  | none : Rep h μ .none .none
  | bool (b : Bool) : Rep h μ (.bool b) (.bool b)
  | int (i : Int) (t : Tok) : Rep h μ (.int i t) (.int i)
  | str (s : Str) (t : Tok) : Rep h μ (.str s t) (.str s)
  | tup {a : Addr} {vs : List Value} {n : Nat} {ds : List D} : h.get? a = some (tupO vs n) → a ∉ μ → vs.length ≤ sizeLine → Reps h μ vs ds → Rep h μ (.ref a) (.tup ds)
  | lst {a : Addr} {vs : List Value} {n : Nat} {ds : List D} : h.get? a = some (listO vs n) → a ∉ μ → vs.length ≤ sizeLine → Reps h μ vs ds → Rep h μ (.ref a) (.lst ds)
  | mref {i : Nat} {a : Addr} : μ[i]? = some a → Rep h μ (.ref a) (.mref i)
  | inst {x C dx : Addr} {i : Nat} : h.get? x = some (instO C dx) → x ∉ μ → μ[i]? = some dx → Rep h μ (.ref x) (.inst C i)
  | glob (a : Addr) : Rep h μ (.ref a) (.glob a)
  | rng {a : Addr} {k : Int} {t u v : Tok} : h.get? a = some (rngO k t u v) → a ∉ μ → k.natAbs < 2 ^ 62 → Rep h μ (.ref a) (.rng k.toNat)
  | ty (n : String) : Rep h μ (.type n) (.ty n)
  | bi (id : String) : Rep h μ (.builtin id) (.bi id)
inductive Reps (h : Heap) (μ : List Addr) : List Value → List D → Prop where
  | nil : Reps h μ [] []
  | cons {v : Value} {d : D} {vs : List Value} {ds : List D} : Rep h μ v d → Reps h μ vs ds → Reps h μ (v :: vs) (d :: ds)
end

/-- what a value stands for, read off its datum -/
noncomputable def RepF (h : Heap) (μ : List Addr) (v : Value) : D → Prop
  | .none => v = .none
  | .bool b => v = .bool b
  | .int i => ∃ t, v = .int i t
  | .str s => ∃ t, v = .str s t
  | .tup ds => ∃ a vs n, v = .ref a ∧ h.get? a = some (tupO vs n) ∧ a ∉ μ ∧ vs.length ≤ sizeLine ∧ Reps h μ vs ds
  | .lst ds => ∃ a vs n, v = .ref a ∧ h.get? a = some (listO vs n) ∧ a ∉ μ ∧ vs.length ≤ sizeLine ∧ Reps h μ vs ds
  | .mref i => ∃ a, v = .ref a ∧ μ[i]? = some a
  | .inst C i => ∃ x dx, v = .ref x ∧ h.get? x = some (instO C dx) ∧ x ∉ μ ∧ μ[i]? = some dx
  | .glob a => v = .ref a
  | .rng n => ∃ a k t u w, v = .ref a ∧ h.get? a = some (rngO k t u w) ∧ a ∉ μ ∧ k.natAbs < 2 ^ 62 ∧ n = k.toNat
  | .ty n => v = .type n
  | .bi id => v = .builtin id
  | .dct _ => False
theorem Rep.inv {h : Heap} {μ : List Addr} {v : Value} {d : D} (r : Rep h μ v d) : RepF h μ v d :=
  Rep.casesOn (motive_1 := fun v d _ => RepF h μ v d) r rfl (fun _ => rfl) (fun _ t => ⟨t, rfl⟩) (fun _ t => ⟨t, rfl⟩) (fun e m z r => ⟨_, _, _, rfl, e, m, z, r⟩) (fun e m z r => ⟨_, _, _, rfl, e, m, z, r⟩)
    (fun e => ⟨_, rfl, e⟩) (fun e m i => ⟨_, _, rfl, e, m, i⟩) (fun _ => rfl) (fun e m k => ⟨_, _, _, _, _, rfl, e, m, k, rfl⟩) (fun _ => rfl) (fun _ => rfl)
noncomputable def RepsF (h : Heap) (μ : List Addr) (vs : List Value) : List D → Prop
  | [] => vs = []
  | d :: ds => ∃ v ws, vs = v :: ws ∧ Rep h μ v d ∧ Reps h μ ws ds
theorem Reps.inv {h : Heap} {μ : List Addr} {vs : List Value} {ds : List D} (r : Reps h μ vs ds) : RepsF h μ vs ds :=
  Reps.casesOn (motive_2 := fun vs ds _ => RepsF h μ vs ds) r rfl (fun a r => ⟨_, _, rfl, a, r⟩)
theorem Reps.ind {h : Heap} {μ : List Addr} {P : List Value → List D → Prop} (nil : P [] []) (cons : ∀ v d vs ds, Rep h μ v d → Reps h μ vs ds → P vs ds → P (v :: vs) (d :: ds)) : ∀ (ds : List D) (vs : List Value), Reps h μ vs ds → P vs ds := by
  intro ds
  induction ds with
  | nil => intro vs r; obtain rfl := r.inv; exact nil
  | cons d ds ih => intro vs r; obtain ⟨v, ws, rfl, a, r⟩ := r.inv; exact cons v d ws ds a r (ih ws r)

theorem Reps.length {h : Heap} {μ : List Addr} {vs : List Value} {ds : List D} (r : Reps h μ vs ds) : vs.length = ds.length :=
  Reps.ind (P := fun vs ds => vs.length = ds.length) rfl (fun _ _ _ _ _ _ ih => congrArg (· + 1) ih) ds vs r

/-- what a step keeps: all that is not in μ (frames up to their slots) -/
def Firm (o : Obj) : Prop := ∀ vs, o.data = .fields vs → o.cls = .type "list_iterator" ∨ o.cls = .type "tuple_iterator" ∨ o.cls = .type "range_iterator" ∨ o.cls = .type "str_ascii_iterator" ∨ o.cls = .type "range"

structure Ext (full : Bool) (own : List Addr) (h : Heap) (μ : List Addr) (h' : Heap) (μ' : List Addr) : Prop where
  pre : ∃ ν, μ' = μ ++ ν
  new : ∀ a ∈ μ', a ∈ μ ∨ h.get? a = none
  keep : ∀ a o, h.get? a = some o → a ∉ μ → a ∉ own → (full = true ∨ Firm o) → ∃ sl, h'.get? a = some { o with slots := sl } ∧ ((∀ es n, o.data ≠ .dict es n) → sl = o.slots)
  dom : ∀ a o, h.get? a = some o → a ∉ own → ∃ o', h'.get? a = some o'
  apart : ∀ a ∈ own, a ∉ μ'

theorem Ext.refl {full : Bool} {own : List Addr} {h : Heap} {μ : List Addr} (ho : ∀ a ∈ own, a ∉ μ) : Ext full own h μ h μ :=
  ⟨⟨[], by simp⟩, fun a ha => .inl ha, fun a o e _ _ _ => ⟨o.slots, e, fun _ => rfl⟩, fun a o e _ => ⟨o, e⟩, ho⟩

theorem Firm.slots {o : Obj} {sl : Array (Option Value)} (x : Firm o) : Firm { o with slots := sl } := x

theorem Ext.trans {full : Bool} {own : List Addr} {h h' h'' : Heap} {μ μ' μ'' : List Addr} (x : Ext full own h μ h' μ') (y : Ext full own h' μ' h'' μ'') : Ext full own h μ h'' μ'' where
  pre := by
    obtain ⟨ν, rfl⟩ := x.pre
    obtain ⟨ν', rfl⟩ := y.pre
    exact ⟨ν ++ ν', by simp⟩
  new := fun a ha => by
    rcases y.new a ha with q | q
    · exact x.new a q
    · refine .inr ?_
      cases e : h.get? a with
      | none => rfl
      | some o => obtain ⟨o', e'⟩ := x.dom a o e (fun z => y.apart a z ha); rw [q] at e'; cases e'
  keep := fun a o e hμ ho hf => by
    obtain ⟨sl, e1, s1⟩ := x.keep a o e hμ ho hf
    have hμ' : a ∉ μ' := fun q => by
      rcases x.new a q with q | q
      · exact hμ q
      · rw [e] at q; cases q
    obtain ⟨sl2, e2, s2⟩ := y.keep a _ e1 hμ' ho (hf.imp id Firm.slots)
    exact ⟨sl2, e2, fun hd => (s2 hd).trans (s1 hd)⟩
  dom := fun a o e ho => by
    obtain ⟨o', e'⟩ := x.dom a o e ho
    exact y.dom a o' e' ho
  apart := y.apart

theorem Ext.weaken {full : Bool} {own own' : List Addr} {h h' : Heap} {μ μ' : List Addr} (x : Ext true own h μ h' μ') (ho : ∀ a ∈ own, a ∈ own') (ha : ∀ a ∈ own', a ∉ μ') : Ext full own' h μ h' μ' where
  pre := x.pre
  new := x.new
  keep := fun a o e hμ hn _ => x.keep a o e hμ (fun q => hn (ho a q)) (.inl rfl)
  dom := fun a o e hn => x.dom a o e fun q => hn (ho a q)
  apart := ha

theorem Ext.owned {full : Bool} {own own' : List Addr} {h h' : Heap} {μ μ' : List Addr} (x : Ext full own h μ h' μ') (ho : ∀ a ∈ own, a ∈ own') (ha : ∀ a ∈ own', a ∉ μ') : Ext full own' h μ h' μ' where
  pre := x.pre
  new := x.new
  keep := fun a o e hμ hn hf => x.keep a o e hμ (fun q => hn (ho a q)) hf
  dom := fun a o e hn => x.dom a o e fun q => hn (ho a q)
  apart := ha

/-- what is kept whole -/
theorem Ext.of_keeps {full : Bool} {own : List Addr} {h h' : Heap} {μ : List Addr} (k : ∀ b o, h.get? b = some o → h'.get? b = some o) (ho : ∀ a ∈ own, a ∉ μ) : Ext full own h μ h' μ :=
  ⟨⟨[], by simp⟩, fun a ha => .inl ha, fun a o e _ _ _ => ⟨o.slots, k a o e, fun _ => rfl⟩, fun a o e _ => ⟨o, k a o e⟩, ho⟩
theorem Ext.of_keeps0 {full : Bool} {h h' : Heap} {μ : List Addr} (k : ∀ b o, h.get? b = some o → h'.get? b = some o) : Ext full [] h μ h' μ := Ext.of_keeps k fun _ ha => nomatch ha
theorem Ext.of_extBut {full : Bool} {h h' : Heap} {μ : List Addr} {it : Addr} (k : Heap.ExtBut it h h') (hm : it ∉ μ) : Ext full [it] h μ h' μ :=
  ⟨⟨[], by simp⟩, fun a ha => .inl ha, fun a o e _ hn _ => ⟨o.slots, k a o (by simpa using hn) e, fun _ => rfl⟩, fun a o e hn => ⟨o, k a o (by simpa using hn) e⟩, fun a ha => by rw [List.mem_singleton.mp ha]; exact hm⟩

/-- an object of the frozen kinds stays as it is -/
theorem Ext.solid {full : Bool} {h h' : Heap} {own μ μ' : List Addr} (x : Ext full own h μ h' μ') {a : Addr} {o : Obj} (e : h.get? a = some o) (hμ : a ∉ μ) (ho : a ∉ own) (hf : Firm o) (hd : ∀ es n, o.data ≠ .dict es n) : h'.get? a = some o := by
  obtain ⟨sl, e1, s1⟩ := x.keep a o e hμ ho (.inr hf)
  rw [s1 hd] at e1
  exact e1

theorem Ext.notMem {full : Bool} {h h' : Heap} {own μ μ' : List Addr} (x : Ext full own h μ h' μ') {a : Addr} {o : Obj} (e : h.get? a = some o) (hμ : a ∉ μ) : a ∉ μ' := fun q => by
  rcases x.new a q with q | q
  · exact hμ q
  · rw [e] at q; cases q

theorem Ext.at {full : Bool} {h h' : Heap} {own μ μ' : List Addr} (x : Ext full own h μ h' μ') {i : Nat} {a : Addr} (e : μ[i]? = some a) : μ'[i]? = some a := by
  obtain ⟨ν, rfl⟩ := x.pre
  have hi : i < μ.length := by
    rcases Nat.lt_or_ge i μ.length with q | q
    · exact q
    · rw [List.getElem?_eq_none q] at e; cases e
  rw [List.getElem?_append_left hi]; exact e

/-- own: what the frame itself may change is of no frozen kind -/
def OwnOk (own : List Addr) (h : Heap) : Prop := ∀ a ∈ own, ∀ o, h.get? a = some o → (∀ xs n, o.data ≠ .seq xs n) ∧ o.data ≠ .plain ∧ ∀ vs, o.data = .fields vs → o.cls ≠ .type "range"

theorem Rep.exts {full : Bool} {own : List Addr} {h h' : Heap} {μ μ' : List Addr} (x : Ext full own h μ h' μ') (ok : OwnOk own h) : (∀ {v : Value} {d : D}, Rep h μ v d → Rep h' μ' v d) ∧ ∀ {vs : List Value} {ds : List D}, Reps h μ vs ds → Reps h' μ' vs ds := by
  have sq : ∀ {a : Addr} {xs : Array Value} {n : Nat} {c : Value}, h.get? a = some { cls := c, data := .seq xs n } → a ∉ μ → h'.get? a = some { cls := c, data := .seq xs n } := fun e hμ => x.solid e hμ (fun q => (ok _ q _ e).1 _ _ rfl) (fun _ q => nomatch q) (fun _ _ q => nomatch q)
  have n : Rep h' μ' .none .none := .none
  have tup : ∀ {a : Addr} {vs : List Value} {n : Nat} {ds : List D}, h.get? a = some (tupO vs n) → a ∉ μ → vs.length ≤ sizeLine → Reps h μ vs ds → Reps h' μ' vs ds → Rep h' μ' (.ref a) (.tup ds) := fun e hμ hz _ r => .tup (sq e hμ) (x.notMem e hμ) hz r
  have lst : ∀ {a : Addr} {vs : List Value} {n : Nat} {ds : List D}, h.get? a = some (listO vs n) → a ∉ μ → vs.length ≤ sizeLine → Reps h μ vs ds → Reps h' μ' vs ds → Rep h' μ' (.ref a) (.lst ds) := fun e hμ hz _ r => .lst (sq e hμ) (x.notMem e hμ) hz r
  have inst : ∀ {a C dx : Addr} {i : Nat}, h.get? a = some (instO C dx) → a ∉ μ → μ[i]? = some dx → Rep h' μ' (.ref a) (.inst C i) := fun e hμ i => .inst (x.solid e hμ (fun q => (ok _ q _ e).2.1 rfl) (fun _ q => nomatch q) (fun _ _ q => nomatch q)) (x.notMem e hμ) (x.at i)
  have rng : ∀ {a : Addr} {k : Int} {t u v : Tok}, h.get? a = some (rngO k t u v) → a ∉ μ → k.natAbs < 2 ^ 62 → Rep h' μ' (.ref a) (.rng k.toNat) := fun e hμ hk => .rng (x.solid e hμ (fun q => (ok _ q _ e).2.2 _ rfl rfl) (fun _ _ => .inr (.inr (.inr (.inr rfl)))) (fun _ _ q => nomatch q)) (x.notMem e hμ) hk
  constructor
  · intro v d r
    exact Rep.rec (motive_1 := fun v d _ => Rep h' μ' v d) (motive_2 := fun vs ds _ => Reps h' μ' vs ds) n .bool .int .str tup lst (fun e => .mref (x.at e)) inst .glob rng .ty .bi .nil (fun _ _ a r => .cons a r) r
  · intro v d r
    exact Reps.rec (motive_1 := fun v d _ => Rep h' μ' v d) (motive_2 := fun vs ds _ => Reps h' μ' vs ds) n .bool .int .str tup lst (fun e => .mref (x.at e)) inst .glob rng .ty .bi .nil (fun _ _ a r => .cons a r) r
theorem Rep.ext {full : Bool} {own : List Addr} {h h' : Heap} {μ μ' : List Addr} (x : Ext full own h μ h' μ') (ok : OwnOk own h) {v : Value} {d : D} (r : Rep h μ v d) : Rep h' μ' v d := (Rep.exts x ok).1 r
theorem Reps.ext {full : Bool} {own : List Addr} {h h' : Heap} {μ μ' : List Addr} (x : Ext full own h μ h' μ') (ok : OwnOk own h) {vs : List Value} {ds : List D} (r : Reps h μ vs ds) : Reps h' μ' vs ds := (Rep.exts x ok).2 r

theorem OwnOk.nil {h : Heap} : OwnOk [] h := fun _ ha => nomatch ha

theorem Ext.dropFresh {full : Bool} {own : List Addr} {h h' : Heap} {μ μ' : List Addr} {a : Addr} (x : Ext full (a :: own) h μ h' μ') (hn : h.get? a = none) : Ext full own h μ h' μ' where
  pre := x.pre
  new := x.new
  keep := fun b o e hμ ho hf => x.keep b o e hμ (fun q => by
    rcases List.mem_cons.mp q with rfl | q
    · rw [hn] at e; cases e
    · exact ho q) hf
  dom := fun b o e ho => x.dom b o e fun q => by
    rcases List.mem_cons.mp q with rfl | q
    · rw [hn] at e; cases e
    · exact ho q
  apart := fun b hb => x.apart b (List.mem_cons_of_mem _ hb)

end YV
end

section
set_option autoImplicit false
namespace YV
open PySem

abbrev Loc := List (Str × D)
noncomputable def getL (x : Str) : Loc → Option D
  | [] => none
  | (y, d) :: r => if y = x then some d else getL x r
noncomputable def setL (x : Str) (d : D) : Loc → Loc
  | [] => [(x, d)]
  | (y, e) :: r => if y = x then (y, d) :: r else (y, e) :: setL x d r

abbrev Hp := List AObj

/-- what kind of name: of the frame's own, in a cell, of the module -/
inductive NK where
  | loc | cell | glob
  deriving DecidableEq
noncomputable def kcOf (names : List (Str × NameKind)) (x : Str) : Option NK := match names.lookup x with
  | some .local => some .loc
  | some .cell | some .free => some .cell
  | some .globalImplicit => some .glob
  | _ => none

/-- the abstract program: what names mean, what calls do, how exceptions' classes lie, which displays are mutable -/
structure Pg where
  gl : Str → Option D
  cw : Addr → List D → Hp → (D → Hp → Prop) → (Value → Hp → Prop) → Prop
  meth : Addr → Str → Option Addr
  sub : Value → Value → Option Bool
  exc : Value → Bool
  fn : Addr → Bool
  fld : Addr → Str → Bool
  sfd : Addr → Str → Bool
  mu : Pos → Bool
  raw : Value → Bool

mutual
noncomputable def toP : D → Option PyData
  | .none => some .none
  | .bool b => some (.bool b)
  | .int i => some (.int i)
  | .str s => some (.str s)
  | .tup ds => (toPs ds).map .tuple
  | .lst ds => (toPs ds).map .list
  | _ => none
noncomputable def toPs : List D → Option (List PyData)
  | [] => some []
  | d :: ds => (toP d).bind fun p => (toPs ds).map (p :: ·)
end

/-- a mutable list as it stands -/
noncomputable def view (H : Hp) : D → D
  | .mref i => match H[i]? with | some (.lst ds) => .lst ds | _ => .mref i
  | d => d

noncomputable def shapedP (p : PyData) : Bool := p.canLay0 && decide (p.depth ≤ 64)

noncomputable def eqD (a b : D) : Option Bool := match toP a, toP b with
  | some p, some q => if shapedP p && shapedP q then some (PyData.eqv p q) else none
  | _, _ => none

noncomputable def intsOf : List D → Option (List Int)
  | [] => some []
  | .int i :: r => (intsOf r).map (i :: ·)
  | _ => none

noncomputable def asI : D → Option Int
  | .int i => some i
  | _ => none
noncomputable def asL : D → Option (List D)
  | .lst l => some l
  | _ => none
noncomputable def asT : D → Option String
  | .ty n => some n
  | _ => none
noncomputable def asU : D → Option (List D)
  | .tup l => some l
  | _ => none
theorem asU_some {a : D} {l : List D} (h : asU a = some l) : a = .tup l := by
  cases a <;> first | (cases h; rfl) | cases h
theorem asI_some {a : D} {i : Int} (h : asI a = some i) : a = .int i := by
  cases a <;> first | (cases h; rfl) | cases h
theorem asL_some {a : D} {l : List D} (h : asL a = some l) : a = .lst l := by
  cases a <;> first | (cases h; rfl) | cases h
theorem asT_some {a : D} {n : String} (h : asT a = some n) : a = .ty n := by
  cases a <;> first | (cases h; rfl) | cases h
theorem bindS {α β : Type} {o : Option α} {f : α → Option β} {d : β} (h : o.bind f = some d) : ∃ a, o = some a ∧ f a = some d := Option.bind_eq_some_iff.mp h

noncomputable def cmpD (op : CmpOp) (a b : D) : Option Bool := match op with
  | .Lt => (asI a).bind fun x => (asI b).bind fun y => some (decide (x < y))
  | .LtE => (asI a).bind fun x => (asI b).bind fun y => some (decide (x ≤ y))
  | .Gt => (asI a).bind fun x => (asI b).bind fun y => some (decide (y < x))
  | .GtE => (asI a).bind fun x => (asI b).bind fun y => some (decide (y ≤ x))
  | .Is => (asT a).bind fun x => (asT b).bind fun y => some (x == y)
  | .In => (asI a).bind fun x => (asL b).bind fun ds => (intsOf ds).bind fun l => some (l.any (· == x))
  | .NotIn => (asI a).bind fun x => (asL b).bind fun ds => (intsOf ds).bind fun l => some (!l.any (· == x))
  | .Eq => eqD a b
  | .NotEq => (eqD a b).map (!·)
  | _ => none

noncomputable def small (x : Int) : Bool := decide (x.natAbs < 2 ^ 62)
noncomputable def tiny (x : Int) : Bool := decide (x.natAbs < 2 ^ 40)

noncomputable def binI (op : Operator) (x y : Int) : Option D := match op with
  | .Add => some (.int (x + y))
  | .Sub => some (.int (x - y))
  | .Mult => if small x && small y then some (.int (x * y)) else none
  | .FloorDiv => if y ≠ 0 && decide (y.natAbs < 1073741824) then some (.int (x.fdiv y)) else none
  | .Mod => if y ≠ 0 then some (.int (x.fmod y)) else none
  | _ => none
noncomputable def binL (op : Operator) (x : List D) (b : D) : Option D := match op with
  | .Add => (asL b).bind fun y => if x.length + y.length ≤ 16777216 then some (.lst (x ++ y)) else none
  | .Mult => (asI b).bind fun k => if small k && decide (x.length * k.toNat ≤ 16777216) then some (.lst (List.replicate k.toNat x).flatten) else none
  | _ => none
noncomputable def binD (op : Operator) (a b : D) : Option D := match asI a with
  | some x => (asI b).bind fun y => binI op x y
  | none => (asL a).bind fun x => binL op x b

noncomputable def idxD (a i : D) : Option D := match a, i with
  | .lst ds, .int k => if 0 ≤ k then ds[k.toNat]? else none
  | .tup ds, .int k => if 0 ≤ k then ds[k.toNat]? else none
  | _, _ => none

noncomputable def cutHi (ds : List D) : Option Int → List D
  | some j => ds.take j.toNat
  | none => ds
noncomputable def cutLo (ds : List D) : Option Int → List D
  | some i => ds.drop i.toNat
  | none => ds
noncomputable def cutL (ds : List D) (lo hi : Option Int) : List D := cutLo (cutHi ds hi) lo
noncomputable def partD : Option D → Option (Option Int)
  | none => some none
  | some (.int i) => if 0 ≤ i then some (some i) else none
  | _ => none
noncomputable def sliceD (a : D) (lo hi : Option D) : Option D := match partD lo, partD hi with
  | some l, some h => (match a with
    | .lst ds => some (.lst (cutL ds l h))
    | _ => none)
  | _, _ => none

noncomputable def itemsD (a : D) : Option (List D) := match a with
  | .lst ds => some ds
  | .tup ds => some ds
  | .rng n => some ((List.range n).map fun (i : Nat) => D.int i)
  | .str s => if s.cps.all (· < 128) then some (s.cps.toList.map fun c => D.str ⟨#[c]⟩) else none
  | _ => none

noncomputable def pairD : List D → Option (Int × D)
  | [a, d] => (asI a).map fun k => (k, d)
  | _ => none
noncomputable def pairsOf : List D → Option (List (Int × D))
  | [] => some []
  | x :: r => (asU x).bind fun l => (pairD l).bind fun q => (pairsOf r).map (q :: ·)
noncomputable def putI (k : Int) (d : D) (es : List (Int × D)) : List (Int × D) := if es.any (fun e => decide (e.1 = k)) then es.map (fun e => if e.1 = k then (e.1, d) else e) else es ++ [(k, d)]

noncomputable def tyOf : D → Option String
  | .none => some "NoneType"
  | .bool _ => some "bool"
  | .int _ => some "int"
  | .str _ => some "str"
  | .tup _ => some "tuple"
  | .lst _ => some "list"
  | _ => none

/-- built-in functions -/
noncomputable def foldD (f : Int → Int → Int) : List D → Option D
  | [a] => (asL a).bind fun ds => (intsOf ds).bind fun l => (match l with | x :: l => some (.int (l.foldl f x)) | [] => none)
  | [a, b] => (asI a).bind fun x => (asI b).bind fun y => some (.int (f x y))
  | _ => none
noncomputable def lenD : List D → Option D
  | [a] => (match asL a with
    | some ds => some (.int ds.length)
    | none => (asU a).bind fun ds => some (.int ds.length))
  | _ => none
noncomputable def sumD : List D → Option D
  | [a] => (asL a).bind fun ds => (intsOf ds).bind fun l => if l.all tiny && decide (l.length ≤ 1000) then some (.int l.sum) else none
  | _ => none
noncomputable def biD (id : String) (as : List D) : Option D :=
  if id = "len" then lenD as else if id = "sum" then sumD as else if id = "min" then foldD min as else if id = "max" then foldD max as else none
/-- built-in types called -/
noncomputable def listD : List D → Option D
  | [a] => (match asL a with
    | some ds => some (.lst ds)
    | none => (asU a).bind fun ds => some (.lst ds))
  | _ => none
noncomputable def rangeD : List D → Option D
  | [a] => (asI a).bind fun k => if small k then some (.rng k.toNat) else none
  | _ => none
noncomputable def typeD : List D → Option D
  | [a] => (tyOf a).bind fun t => some (.ty t)
  | _ => none
noncomputable def tyD (n : String) (as : List D) : Option D :=
  if n = "list" then listD as else if n = "range" then rangeD as else if n = "type" then typeD as else none

/-- dict(list of pairs): a new mutable object -/
noncomputable def dictW (ds : List D) (H : Hp) (Q : D → Hp → Prop) : Prop := match ds with
  | [.lst l] => ∃ ps, pairsOf l = some ps ∧ ps.length ≤ 1000 ∧ Q (.mref H.length) (H ++ [.dic (ps.foldl (fun es p => putI p.1 p.2 es) [])])
  | _ => False

noncomputable def attrD (p : Pg) (H : Hp) (a : D) (name : Str) : Option D := match a with
  | .inst C i => if p.fld C name then (match H[i]? with
    | some (.dict fs) => (match getL name fs with | some (.bi _) => none | r => r)
    | _ => none) else none
  | _ => none

inductive Fl where
  | next | brk | cont
  | ret (d : D)

mutual
/-- no mutable object from n on is met -/
noncomputable def below (n : Nat) : D → Bool
  | .mref i => decide (i < n)
  | .inst _ i => decide (i < n)
  | .tup ds => belows n ds
  | .lst ds => belows n ds
  | _ => true
noncomputable def belows (n : Nat) : List D → Bool
  | [] => true
  | d :: ds => below n d && belows n ds
end

/-- a comprehension's turns: its list grows at the heap's end -/
noncomputable def compW (te : D → Hp → (Bool → Hp → Prop) → Prop) (ee : D → Hp → (D → Hp → Prop) → Prop) (H : Hp) : List D → List D → (List D → Prop) → Prop
  | [], acc, Q => Q acc
  | d :: ds, acc, Q => te d (H ++ [.lst acc]) fun ok H₁ => H₁ = H ++ [.lst acc] ∧ if ok then ee d (H ++ [.lst acc]) (fun e H₂ => H₂ = H ++ [.lst acc] ∧ below H.length e = true ∧ compW te ee H ds (acc ++ [e]) Q) else compW te ee H ds acc Q

/-- a loop's turns -/
noncomputable def forW (tgt : D → Loc → Option Loc) (bd : Loc → Hp → (Fl → Loc → Hp → Prop) → Prop) (chk : Hp → Prop) : List D → Loc → Hp → (Fl → Loc → Hp → Prop) → Prop
  | [], loc, H, Q => Q .next loc H
  | d :: ds, loc, H, Q => ∃ loc₁, tgt d loc = some loc₁ ∧ bd loc₁ H fun f loc₂ H₂ => match f with
    | .next | .cont => chk H₂ ∧ forW tgt bd chk ds loc₂ H₂ Q
    | .brk => Q .next loc₂ H₂
    | .ret d => Q (.ret d) loc₂ H₂

noncomputable def chkD (H : Hp) : D → Hp → Prop
  | .mref i => fun H' => H'[i]? = H[i]?
  | _ => fun _ => True

/-- the locals that a comprehension's block sees -/
noncomputable def compLoc (sc : Scope) (x : Str) (d : D) (loc : Loc) : Loc := (x, d) :: loc.filter fun p => sc.names.lookup p.1 == some .free

noncomputable def names? : List Expr → Option (List Str)
  | [] => some []
  | .Name x _ :: r => match names? r with | some l => some (x :: l) | none => none
  | _ => none
noncomputable def setAll : List Str → List D → Loc → Option Loc
  | [], [], loc => some loc
  | x :: xs, d :: ds, loc => setAll xs ds (setL x d loc)
  | _, _, _ => none
noncomputable def tgtD (t : Expr) (d : D) (loc : Loc) : Option Loc := match t with
  | .Name x _ => some (setL x d loc)
  | .Tuple es _ _ => (match names? es, d with
    | some xs, .tup ds => setAll xs ds loc
    | _, _ => none)
  | _ => none

noncomputable def nmD (p : Pg) (sc : Str → Option NK) (loc : Loc) (x : Str) : Option D := match sc x with
  | some .loc | some .cell => getL x loc
  | some .glob => p.gl x
  | none => none

noncomputable def okCallee (p : Pg) : D → Bool
  | .glob a => p.fn a
  | .bi _ | .ty _ => true
  | _ => false

/-- an expression that stands by itself: no star, no set display -/
noncomputable def plainE : Expr → Bool
  | .Starred .. => false
  | .Set .. => false
  | _ => true
noncomputable def plainBase : Expr → Bool
  | .Call (.Name _ _) [] [] _ => false
  | _ => true
noncomputable def freeOk (sc : Str → Option NK) (names : List (Str × NameKind)) : Bool := names.all fun p => p.2 != .free || sc p.1 == some .cell
noncomputable def compOk (sc : Str → Option NK) (x : Str) (scope : Scope) : Bool :=
  freeOk sc scope.names && scope.names.all (fun y => y.2 != .cell) && scope.kind == .function && scope.names.all (fun y => y.2 != .local || scope.names.lookup y.1 == some .local) && scope.names.lookup x == some .local &&
  scope.names.lookup (Str.ofString "__debug__") == none && scope.names.lookup (Str.ofString "__classdict__") == none

mutual
/-- the weakest precondition of an expression, over plain data -/
noncomputable def awE (p : Pg) (sc : Str → Option NK) : Expr → Loc → Hp → (D → Hp → Prop) → (Value → Hp → Prop) → Prop
  | .Constant c _ _, _, H, Q, _ => (match c with
    | .none => Q .none H
    | .bool b => Q (.bool b) H
    | .int i => Q (.int i) H
    | .str s => Q (.str s) H
    | _ => False)
  | .Name x _, loc, H, Q, _ => ∃ d, nmD p sc loc x = some d ∧ Q d H
  | .BinOp l op r _, loc, H, Q, X => awE p sc l loc H (fun a H₁ => awE p sc r loc H₁ (fun b H₂ => ∃ d, binD op (view H₂ a) (view H₂ b) = some d ∧ Q d H₂) X) X
  | .UnaryOp .USub x _, loc, H, Q, X => awE p sc x loc H (fun a H₁ => match a with | .int i => Q (.int (-i)) H₁ | _ => False) X
  | .IfExp t b e _, loc, H, Q, X => awT p sc t (fun K => awE p sc t loc H K X) loc H (fun c H₁ => if c then awE p sc b loc H₁ Q X else awE p sc e loc H₁ Q X) X
  | .BoolOp op (e₁ :: e₂ :: []) _, loc, H, Q, X => awE p sc e₁ loc H (fun a H₁ => match a with
      | .bool b => if b = (op == .Or) then Q (.bool b) H₁ else awE p sc e₂ loc H₁ Q X
      | _ => False) X
  | .Compare l [op] [r] _, loc, H, Q, X => plainE r = true ∧ awE p sc l loc H (fun a H₁ => awE p sc r loc H₁ (fun b H₂ => ∃ c, cmpD op (view H₂ a) (view H₂ b) = some c ∧ Q (.bool c) H₂) X) X
  | .Compare l [op₁, op₂] [r₁, r₂] _, loc, H, Q, X => plainE r₂ = true ∧ awE p sc l loc H (fun a H₁ => awE p sc r₁ loc H₁ (fun b H₂ => ∃ c, cmpD op₁ (view H₂ a) (view H₂ b) = some c ∧
      if c then awE p sc r₂ loc H₂ (fun d H₃ => ∃ c, cmpD op₂ (view H₃ b) (view H₃ d) = some c ∧ Q (.bool c) H₃) X else Q (.bool false) H₂) X) X
  | .Call (.Attribute o name apos) args [] pos, loc, H, Q, X => (plainBase o && args.all plainE && decide (args.length < 30) && apos.endLine == pos.line) = true ∧ awE p sc o loc H (fun a H₁ => match a with
      | .inst C i => (∃ fs, H₁[i]? = some (.dict fs) ∧ getL name fs = none) ∧ ∃ f, p.meth C name = some f ∧ awEs p sc args loc H₁ (fun ds H₂ => p.cw f (.inst C i :: ds) H₂ Q X) X
      | .mref i => if name = Str.ofString "get" then (∃ es, H₁[i]? = some (.dic es)) ∧ args.length = 2 ∧ awEs p sc args loc H₁ (fun ds H₂ => ∃ es k d, H₂[i]? = some (.dic es) ∧ ds = [.int k, d] ∧ Q ((es.lookup k).getD d) H₂) X else
        name = Str.ofString "append" ∧ (∃ l, H₁[i]? = some (.lst l)) ∧ args.length = 1 ∧ awEs p sc args loc H₁ (fun ds H₂ => ∃ l d, H₂[i]? = some (.lst l) ∧ ds = [d] ∧ l.length < 16777216 ∧ Q .none (H₂.set i (.lst (l ++ [d])))) X
      | _ => False) X
  | .Call (.Name f _) args [] _, loc, H, Q, X => args.all plainE = true ∧ ∃ g, nmD p sc loc f = some g ∧ okCallee p g = true ∧ awEs p sc args loc H (fun ds H₂ => match g with
      | .glob a => p.cw a ds H₂ Q X
      | .bi id => ∃ d, biD id (ds.map (view H₂)) = some d ∧ Q d H₂
      | .ty n => if n = "dict" then dictW (ds.map (view H₂)) H₂ Q else ∃ d, tyD n (ds.map (view H₂)) = some d ∧ Q d H₂
      | _ => False) X
  | .Attribute o name _, loc, H, Q, X => plainBase o = true ∧ awE p sc o loc H (fun a H₁ => ∃ d, attrD p H₁ a name = some d ∧ Q d H₁) X
  | .Subscript v (.Slice lo hi none _) _, loc, H, Q, X => awE p sc v loc H (fun a H₁ => awO p sc lo loc H₁ (fun l H₂ => awO p sc hi loc H₂ (fun h H₃ => ∃ d, sliceD (view H₃ a) l h = some d ∧ Q d H₃) X) X) X
  | .Subscript v i _, loc, H, Q, X => awE p sc v loc H (fun a H₁ => awE p sc i loc H₁ (fun b H₂ => ∃ d, idxD (view H₂ a) b = some d ∧ Q d H₂) X) X
  | .List es pos, loc, H, Q, X => decide (es.length ≤ 1000) = true ∧ awEs p sc es loc H (fun ds H₁ => if p.mu pos then Q (.mref H₁.length) (H₁ ++ [.lst ds]) else Q (.lst ds) H₁) X
  | .Tuple es _ _, loc, H, Q, X => decide (es.length ≤ 1000) = true ∧ awEs p sc es loc H (fun ds H₁ => Q (.tup ds) H₁) X
  | .ListComp elt [⟨.Name x _, iter, ifs, 0⟩] scope pos, loc, H, Q, X => (plainE iter && compOk sc x scope && decide (ifs.length ≤ 1)) = true ∧ awE p sc iter loc H (fun a H₁ => ∃ items, itemsD (view H₁ a) = some items ∧ items.length ≤ 16777216 ∧
      compW (fun d H₂ K => awB p (kcOf scope.names) .And ifs (compLoc scope x d loc) H₂ K fun _ _ => False) (fun d H₂ K => awE p (kcOf scope.names) elt (compLoc scope x d loc) H₂ K fun _ _ => False) H₁ items []
        (fun ds => if p.mu pos then Q (.mref H₁.length) (H₁ ++ [.lst ds]) else Q (.lst ds) H₁)) X
  | _, _, _, _, _ => False
noncomputable def awEs (p : Pg) (sc : Str → Option NK) : List Expr → Loc → Hp → (List D → Hp → Prop) → (Value → Hp → Prop) → Prop
  | [], _, H, Q, _ => Q [] H
  | e :: es, loc, H, Q, X => plainE e = true ∧ awE p sc e loc H (fun d H₁ => awEs p sc es loc H₁ (fun ds H₂ => Q (d :: ds) H₂) X) X
noncomputable def awO (p : Pg) (sc : Str → Option NK) : Option Expr → Loc → Hp → (Option D → Hp → Prop) → (Value → Hp → Prop) → Prop
  | none, _, H, Q, _ => Q none H
  | some e, loc, H, Q, X => awE p sc e loc H (fun d H₁ => Q (some d) H₁) X
/-- a test -/
noncomputable def awT (p : Pg) (sc : Str → Option NK) : Expr → ((D → Hp → Prop) → Prop) → Loc → Hp → (Bool → Hp → Prop) → (Value → Hp → Prop) → Prop
  | .UnaryOp .Not x _, _, loc, H, Q, X => awT p sc x (fun K => awE p sc x loc H K X) loc H (fun b H₁ => Q (!b) H₁) X
  | .BoolOp op es _, _, loc, H, Q, X => awB p sc op es loc H Q X
  | .IfExp _ _ _ _, _, _, _, _, _ => False
  | _, whole, _, _, Q, _ => whole (fun d H₁ => match d with | .bool b => Q b H₁ | _ => False)
noncomputable def awB (p : Pg) (sc : Str → Option NK) : BoolOp → List Expr → Loc → Hp → (Bool → Hp → Prop) → (Value → Hp → Prop) → Prop
  | op, [], _, H, Q, _ => Q (op == .And) H
  | op, e :: es, loc, H, Q, X => awT p sc e (fun K => awE p sc e loc H K X) loc H (fun b H₁ => if b = (op == .Or) then Q b H₁ else awB p sc op es loc H₁ Q X) X
end


end YV
end

section
set_option autoImplicit false
namespace YV
open PySem

theorem none_back {h h' : Heap} (k : ∀ b o, h.get? b = some o → h'.get? b = some o) {a : Addr} (e : h'.get? a = none) : h.get? a = none := by
  cases q : h.get? a with
  | none => rfl
  | some o => exact nomatch e.symm.trans (k a o q)

structure Gl where
  prog : Program
  K : PySem.W.Frag
  raw : Value → Bool
  w : World
  base : Heap
  os : OsState

noncomputable def ObjOk (h : Heap) (μ : List Addr) (a : Addr) : AObj → Prop
  | .lst ds => ∃ vs n, h.get? a = some (listO vs n) ∧ vs.length ≤ sizeLine ∧ Reps h μ vs ds
  | .dict fs => ∃ m, h.Ns1 a m ∧ ∀ x, match getL x fs with | some d => ∃ v, m x = some v ∧ Rep h μ v d | none => m x = none
  | .dic es => ∃ kvs, (∀ prog w, h.DictOf (PySem.intKind prog w) a kvs) ∧ kvs.map (·.1) = es.map (·.1) ∧ Reps h μ (kvs.map (·.2)) (es.map (·.2)) ∧ (a == sysModules) = false

structure Inv (G : Gl) (l : List Env) (μ : List Addr) (H : Hp) (s : Shared) : Prop where
  stays : ∀ b o, G.base.get? b = some o → s.heap.get? b = some o
  gens : s.gens = #[]
  os : s.os = G.os
  frames : s.heap.FunFrames G.base l
  fresh : ∀ a ∈ μ, G.base.get? a = none
  nodup : μ.Nodup
  apart : ∀ env ∈ l, ∀ L, env.frame = some L → L ∉ μ
  fd : ∀ env ∈ l, ∀ L, env.frame = some L → ∃ o es n, s.heap.get? L = some o ∧ o.data = .dict es n
  len : μ.length = H.length
  objs : ∀ (i : Nat) (a : Addr) (o : AObj), μ[i]? = some a → H[i]? = some o → ObjOk s.heap μ a o

theorem Reps.mono {h h' : Heap} {μ μ' : List Addr} (k : ∀ v d, Rep h μ v d → Rep h' μ' v d) {vs : List Value} {ds : List D} (r : Reps h μ vs ds) : Reps h' μ' vs ds :=
  Reps.ind (P := Reps h' μ') .nil (fun _ _ _ _ a _ ih => .cons (k _ _ a) ih) ds vs r

theorem Rep.keeps {h h' : Heap} {μ : List Addr} (k : ∀ b o, h.get? b = some o → h'.get? b = some o) {v : Value} {d : D} (r : Rep h μ v d) : Rep h' μ v d := r.ext (Ext.of_keeps0 (full := true) k) OwnOk.nil
theorem Reps.keeps {h h' : Heap} {μ : List Addr} (k : ∀ b o, h.get? b = some o → h'.get? b = some o) {vs : List Value} {ds : List D} (r : Reps h μ vs ds) : Reps h' μ vs ds := r.ext (Ext.of_keeps0 (full := true) k) OwnOk.nil

/-- an object at a stays, and its parts do -/
theorem ObjOk.mono {h h' : Heap} {μ μ' : List Addr} {a : Addr} {o : AObj} (e : ∀ ob, h.get? a = some ob → h'.get? a = some ob) (k : ∀ v d, Rep h μ v d → Rep h' μ' v d) (x : ObjOk h μ a o) : ObjOk h' μ' a o := by
  cases o with
  | lst ds => obtain ⟨vs, n, e1, z, r⟩ := x; exact ⟨vs, n, e _ e1, z, r.mono k⟩
  | dict fs =>
    obtain ⟨m, hn, r⟩ := x
    refine ⟨m, ?_, fun y => ?_⟩
    · obtain ⟨ob, es, ep, ho, q⟩ := hn; exact ⟨ob, es, ep, e _ ho, q⟩
    · have := r y
      split at this
      · rename_i d hd; obtain ⟨v, h1, h2⟩ := this; exact ⟨v, h1, k _ _ h2⟩
      · exact this
  | dic es =>
    obtain ⟨kvs, hd, hk, r, hs⟩ := x
    exact ⟨kvs, fun prog w => let ⟨ob, es, ep, ho, q⟩ := hd prog w; ⟨ob, es, ep, e _ ho, q⟩, hk, r.mono k, hs⟩

theorem Inv.keeps {G : Gl} {l : List Env} {μ : List Addr} {H : Hp} {s : Shared} (I : Inv G l μ H s) {h' : Heap} {tk : Nat} (k : ∀ b o, s.heap.get? b = some o → h'.get? b = some o) : Inv G l μ H { s with heap := h', toks := tk } where
  stays := fun b o e => k b o (I.stays b o e)
  gens := I.gens
  os := I.os
  frames := I.frames.of_keeps fun b o e _ => ⟨o, k b o e, rfl⟩
  fresh := I.fresh
  nodup := I.nodup
  apart := I.apart
  fd := fun env he L hL => let ⟨o, es, n, h1, h2⟩ := I.fd env he L hL; ⟨o, es, n, k _ _ h1, h2⟩
  len := I.len
  objs := fun i a o e1 e2 => (I.objs i a o e1 e2).mono (fun ob q => k a ob q) fun _ _ r => r.keeps k

theorem Inv.toks {G : Gl} {l : List Env} {μ : List Addr} {H : Hp} {s : Shared} (I : Inv G l μ H s) (tk : Nat) : Inv G l μ H { s with toks := tk } := I.keeps (tk := tk) fun _ _ e => e

theorem Inv.of_keeps {G : Gl} {l : List Env} {μ : List Addr} {H : Hp} {s s' : Shared} (I : Inv G l μ H s) (k : Keeps s s') : Inv G l μ H s' := by
  obtain ⟨h', tk, rfl, kk⟩ := k
  exact I.keeps kk

/-- a mutable object is of a kind of its own -/
theorem Inv.kind {G : Gl} {l : List Env} {μ : List Addr} {H : Hp} {s : Shared} (I : Inv G l μ H s) {a : Addr} (ha : a ∈ μ) : ∃ o, s.heap.get? a = some o ∧ (∀ vs, o.data ≠ .fields vs) ∧ (∀ v, o.data ≠ .cell v) := by
  obtain ⟨i, hi, rfl⟩ := List.getElem_of_mem ha
  have hH : i < H.length := I.len ▸ hi
  have := I.objs i μ[i] H[i] (by simp [hi]) (by simp [hH])
  cases hq : H[i] with
  | lst ds => rw [hq] at this; obtain ⟨vs, n, e1, _⟩ := this; exact ⟨_, e1, (fun _ q => by cases q), (fun _ q => by cases q)⟩
  | dict fs => rw [hq] at this; obtain ⟨m, ⟨ob, es, ep, ho, hd, _⟩, _⟩ := this; exact ⟨_, ho, (fun _ q => by rw [hd] at q; cases q), (fun _ q => by rw [hd] at q; cases q)⟩
  | dic es => rw [hq] at this; obtain ⟨kvs, hdd, _⟩ := this; obtain ⟨ob, es, ep, ho, _, hd, _⟩ := hdd G.prog G.w; exact ⟨_, ho, (fun _ q => by rw [hd] at q; cases q), (fun _ q => by rw [hd] at q; cases q)⟩

/-- the frame's own names -/
structure Fok (G : Gl) (env : Env) (loc : Loc) (μ : List Addr) (h : Heap) : Prop where
  kind : env.scope.kind = .function
  dbg : env.kindOf ("__debug__" : Str) = none
  cld : env.kindOf ("__classdict__" : Str) = none
  glob : env.globals = mainGlobals
  blt : env.builtins = builtinsNs
  ns : ∃ m, h.Ns env.locals m ∧ ∀ x d, getL x loc = some d → env.kindOf x = some .local → ∃ v, m x = some v ∧ Rep h μ v d
  cell : ∀ x d, getL x loc = some d → env.kindOf x = some .cell ∨ env.kindOf x = some .free → ∃ c v, env.cells.lookup x = some c ∧ h.IsCell c (some v) ∧ Rep h μ v d
  cellAt : ∀ x, env.kindOf x = some .cell ∨ env.kindOf x = some .free → ∃ c, env.cells.lookup x = some c
  cellAll : ∀ q ∈ env.cells, (∃ w, h.IsCell q.2 w) ∧ G.base.get? q.2 = none
  cellApart : ∀ x y c, env.cells.lookup x = some c → env.cells.lookup y = some c → x = y
  fresh : G.base.get? env.locals = none
  notMut : env.locals ∉ μ

noncomputable def own (env : Env) : List Addr := env.locals :: env.cells.map (·.2)

/-- a namespace stays where its object does, up to slots -/
theorem ns_slots {h h' : Heap} {a : Addr} {m : Str → Option Value} (hn : h.Ns a m) (k : ∀ o, h.get? a = some o → ∃ sl, h'.get? a = some { o with slots := sl }) : h'.Ns a m := by
  obtain ⟨o, es, ep, ho, hd, r⟩ := hn
  obtain ⟨sl, hs⟩ := k o ho
  exact ⟨_, es, ep, hs, hd, r⟩

theorem Fok.ext {G : Gl} {env : Env} {loc : Loc} {μ μ' : List Addr} {h h' : Heap} {full : Bool} (F : Fok G env loc μ h) (x : Ext full [] h μ h' μ') (hc : ∀ c v, h.IsCell c v → c ∉ μ) : Fok G env loc μ' h' where
  kind := F.kind
  dbg := F.dbg
  cld := F.cld
  glob := F.glob
  blt := F.blt
  ns := by
    obtain ⟨m, hn, hm⟩ := F.ns
    refine ⟨m, ns_slots hn fun o e => ?_, fun y d e k => ?_⟩
    · obtain ⟨o', es, ep, e', hd, _⟩ := hn
      rw [e] at e'; cases e'
      obtain ⟨sl, e2, _⟩ := x.keep _ _ e F.notMut (by simp) (.inr fun vs q => by rw [hd] at q; cases q)
      exact ⟨sl, e2⟩
    · obtain ⟨v, e1, r⟩ := hm y d e k
      exact ⟨v, e1, r.ext x OwnOk.nil⟩
  cell := fun y d e k => by
    obtain ⟨c, v, e1, hv, r⟩ := F.cell y d e k
    have hcm := hc c _ hv
    obtain ⟨o, ho, hd⟩ := hv
    refine ⟨c, v, e1, ⟨o, x.solid ho hcm (by simp) (fun vs q => by rw [hd] at q; cases q) (fun es n q => by rw [hd] at q; cases q), hd⟩, r.ext x OwnOk.nil⟩
  cellAt := F.cellAt
  cellAll := fun y hy => by
    obtain ⟨⟨w, hv⟩, hb⟩ := F.cellAll y hy
    have hcm := hc _ _ hv
    obtain ⟨o, ho, hd⟩ := hv
    exact ⟨⟨w, o, x.solid ho hcm (by simp) (fun vs q => by rw [hd] at q; cases q) (fun es n q => by rw [hd] at q; cases q), hd⟩, hb⟩
  cellApart := F.cellApart
  fresh := F.fresh
  notMut := by
    obtain ⟨m, ⟨o, es, ep, ho, _⟩, _⟩ := F.ns
    exact x.notMem ho F.notMut

theorem Inv.cell {G : Gl} {l : List Env} {μ : List Addr} {H : Hp} {s : Shared} (I : Inv G l μ H s) : ∀ c v, s.heap.IsCell c v → c ∉ μ := by
  intro c v ⟨o, ho, hd⟩ hm
  obtain ⟨o', ho', _, hk⟩ := I.kind hm
  rw [ho] at ho'; cases ho'
  exact hk v hd

theorem Fok.keeps {G : Gl} {env : Env} {loc : Loc} {μ : List Addr} {h h' : Heap} (F : Fok G env loc μ h) (k : ∀ b o, h.get? b = some o → h'.get? b = some o) : Fok G env loc μ h' where
  kind := F.kind
  dbg := F.dbg
  cld := F.cld
  glob := F.glob
  blt := F.blt
  ns := by
    obtain ⟨m, hn, hm⟩ := F.ns
    refine ⟨m, hn.keeps k, fun y d e kk => ?_⟩
    obtain ⟨v, e1, r⟩ := hm y d e kk
    exact ⟨v, e1, r.keeps k⟩
  cell := fun y d e kk => by
    obtain ⟨c, v, e1, ⟨o, ho, hd⟩, r⟩ := F.cell y d e kk
    exact ⟨c, v, e1, ⟨o, k _ _ ho, hd⟩, r.keeps k⟩
  cellAt := F.cellAt
  cellAll := fun y hy => by
    obtain ⟨⟨w, o, ho, hd⟩, hb⟩ := F.cellAll y hy
    exact ⟨⟨w, o, k _ _ ho, hd⟩, hb⟩
  cellApart := F.cellApart
  fresh := F.fresh
  notMut := F.notMut

/-- all but one thing of its own stays -/
theorem Inv.extBut {G : Gl} {l : List Env} {μ : List Addr} {H : Hp} {s : Shared} (I : Inv G l μ H s) {it : Addr} {h' : Heap} {tk : Nat} (k : Heap.ExtBut it s.heap h') (hm : it ∉ μ) (hb : G.base.get? it = none)
    (hi : ∀ o, s.heap.get? it = some o → ∃ vs, o.data = .fields vs ∧ o.cls ≠ .type "range") : Inv G l μ H { s with heap := h', toks := tk } where
  stays := fun b o e => k b o (fun q => by rw [q, hb] at e; cases e) (I.stays b o e)
  gens := I.gens
  os := I.os
  frames := I.frames.of_keeps fun b o e hn => ⟨o, k b o (fun q => by
    subst q
    obtain ⟨vs, hv, _⟩ := hi o e
    exact hn vs hv) e, rfl⟩
  fresh := I.fresh
  nodup := I.nodup
  apart := I.apart
  fd := fun env he L hL => by
    obtain ⟨o, es, n, h1, h2⟩ := I.fd env he L hL
    refine ⟨o, es, n, k L o (fun q => ?_) h1, h2⟩
    rw [q] at h1
    obtain ⟨vs, hv, _⟩ := hi o h1
    rw [hv] at h2; cases h2
  len := I.len
  objs := fun i a o e1 e2 => by
    have hx : Ext true [it] s.heap μ h' μ := Ext.of_extBut k hm
    refine (I.objs i a o e1 e2).mono (fun ob q => k a ob (fun z => hm (z ▸ List.mem_of_getElem? e1)) q) fun _ _ r => r.ext hx ?_
    intro a ha o e
    rw [List.mem_singleton.mp ha] at e
    obtain ⟨vs, hv, hc⟩ := hi o e
    exact ⟨(fun xs n q => by rw [hv] at q; cases q), (fun q => by rw [hv] at q; cases q), fun _ _ => hc⟩

/-- the surroundings: frames l, room for k more calls -/
structure AOk (A : Around) (l : List Env) (k : Nat) : Prop where
  handled : A.handled = none
  frames : A.frames = some l
  depth : A.depth + 4 * k ≤ 900
  units : A.units + 20 * k + 100 < 9000

/-- an exception of class c at ea, its first traceback entry T, in flight as fl says; raw: no context -/
noncomputable def ExcAt (raw : Bool) (h : Heap) (ea : Addr) (c : Value) (T : Option Addr) (fl : Value) : Prop :=
  ∃ oe vs, h.get? ea = some oe ∧ oe.cls = c ∧ c ≠ .type "range" ∧ oe.data = .fields vs ∧ 2 < vs.size ∧ (raw = true → vs[2]? = some .none) ∧ match T with
    | none => vs[1]? = some .none
    | some T => vs[1]? = some (.ref T) ∧ T ≠ ea ∧ ∃ oT ts, h.get? T = some oT ∧ oT.cls = .type "traceback" ∧ oT.data = .fields ts ∧ 4 < ts.size ∧ ts[3]? = some fl

/-- an exception of class c flies -/
noncomputable def Fly (G : Gl) (h₀ h : Heap) (e c : Value) : Prop := ∃ ea T, e = .ref ea ∧ ExcAt (G.raw c) h ea c (some T) .none ∧ h₀.get? ea = none ∧ h₀.get? T = none

/-- an expression's end -/
inductive EvP (G : Gl) (l : List Env) (μ : List Addr) (s : Shared) (Q : D → Hp → Prop) (v : Value) (s' : Shared) : Prop
  | mk (μ' : List Addr) (H' : Hp) (d : D) : Inv G l μ' H' s' → Ext true [] s.heap μ s'.heap μ' → Rep s'.heap μ' v d → Q d H' → EvP G l μ s Q v s'
inductive EvX (G : Gl) (l : List Env) (μ : List Addr) (s : Shared) (X : Value → Hp → Prop) (e : Value) (s' : Shared) : Prop
  | mk (μ' : List Addr) (H' : Hp) (c : Value) : Inv G l μ' H' s' → Ext true [] s.heap μ s'.heap μ' → Fly G s.heap s'.heap e c → X c H' → EvX G l μ s X e s'

/-- the end of a call -/
noncomputable def RetP (G : Gl) (l : List Env) (μ : List Addr) (s : Shared) (Q : D → Hp → Prop) (X : Value → Hp → Prop) : Result → Shared → Prop := fun r s' => match r with
  | .ok (.ret v) => EvP G l μ s Q v s'
  | .ok _ => False
  | .error e => EvX G l μ s X e s'

/-- the contract of a call, as a weakest precondition -/
noncomputable def CW (G : Gl) (k : Nat) (f : Addr) (ds : List D) (H : Hp) (Q : D → Hp → Prop) (X : Value → Hp → Prop) : Prop :=
  ∀ (A : Around) (l : List Env) (s : Shared) (μ : List Addr) (vs : List Value), AOk A l k → Inv G l μ H s → Reps s.heap μ vs ds →
    codeAny (model G.prog G.w) A (.call (.ref f) ⟨vs, []⟩) (RetP G l μ s Q X) s

end YV
end

section
set_option autoImplicit false
set_option linter.unusedVariables false
set_option maxRecDepth 10000
namespace YV
open PySem PyProof.Rows

/-- a sequence at hand: a datum, or a mutable list as it stands -/
noncomputable def View (h : Heap) (μ : List Addr) (v : Value) (d : D) : Prop := Rep h μ v d ∨ ∃ a vs n ds, v = .ref a ∧ d = .lst ds ∧ h.get? a = some (listO vs n) ∧ vs.length ≤ sizeLine ∧ Reps h μ vs ds

noncomputable def ViewF (h : Heap) (μ : List Addr) (v : Value) : D → Prop
  | .lst ds => ∃ a vs n, v = .ref a ∧ h.get? a = some (listO vs n) ∧ vs.length ≤ sizeLine ∧ Reps h μ vs ds
  | d => RepF h μ v d
theorem View.inv {h : Heap} {μ : List Addr} {v : Value} {d : D} (x : View h μ v d) : ViewF h μ v d := by
  rcases x with x | ⟨a, vs, n, ds', rfl, rfl, h1, h2, h3⟩
  · have y := x.inv
    cases d <;> first | exact y | (obtain ⟨a, vs, n, e, g, _, z, r⟩ := y; exact ⟨a, vs, n, e, g, z, r⟩)
  · exact ⟨a, vs, n, rfl, h1, h2, h3⟩
theorem View.lst {h : Heap} {μ : List Addr} {v : Value} {ds : List D} (x : View h μ v (.lst ds)) : ∃ a vs n, v = .ref a ∧ h.get? a = some (listO vs n) ∧ vs.length ≤ sizeLine ∧ Reps h μ vs ds := x.inv
theorem View.tup {h : Heap} {μ : List Addr} {v : Value} {ds : List D} (x : View h μ v (.tup ds)) : ∃ a vs n, v = .ref a ∧ h.get? a = some (tupO vs n) ∧ vs.length ≤ sizeLine ∧ Reps h μ vs ds := by
  obtain ⟨a, vs, n, e, g, _, z, r⟩ := x.inv; exact ⟨a, vs, n, e, g, z, r⟩
theorem View.int {h : Heap} {μ : List Addr} {v : Value} {i : Int} (x : View h μ v (.int i)) : ∃ t, v = .int i t := x.inv
theorem View.ty {h : Heap} {μ : List Addr} {v : Value} {n : String} (x : View h μ v (.ty n)) : v = .type n := x.inv

theorem Inv.view {G : Gl} {l : List Env} {μ : List Addr} {H : Hp} {s : Shared} (I : Inv G l μ H s) {v : Value} {d : D} (r : Rep s.heap μ v d) : View s.heap μ v (view H d) := by
  cases d with
  | mref i =>
    show View s.heap μ v (match H[i]? with | some (.lst ds) => .lst ds | _ => .mref i)
    cases hq : H[i]? with
    | none => exact .inl r
    | some o =>
      cases o with
      | lst ds =>
        obtain ⟨a, rfl, e⟩ := r.inv
        obtain ⟨vs, n, e1, z, q⟩ := I.objs i a _ e hq
        exact .inr ⟨a, vs, n, ds, rfl, rfl, e1, z, q⟩
      | _ => exact .inl r
  | _ => exact .inl r

theorem of_bool {a : D} {P : Bool → Prop} (h : match a with | .bool b => P b | _ => False) : ∃ b, a = .bool b ∧ P b := by
  cases a <;> first | exact ⟨_, rfl, h⟩ | exact h.elim
theorem of_int {a : D} {P : Int → Prop} (h : match a with | .int b => P b | _ => False) : ∃ b, a = .int b ∧ P b := by
  cases a <;> first | exact ⟨_, rfl, h⟩ | exact h.elim

theorem Reps.append {h : Heap} {μ : List Addr} {vs ws : List Value} {ds es : List D} (r : Reps h μ vs ds) (q : Reps h μ ws es) : Reps h μ (vs ++ ws) (ds ++ es) :=
  Reps.ind (P := fun vs ds => Reps h μ (vs ++ ws) (ds ++ es)) q (fun _ _ _ _ a _ ih => .cons a ih) ds vs r
theorem Reps.take {h : Heap} {μ : List Addr} {vs : List Value} {ds : List D} (r : Reps h μ vs ds) : ∀ n : Nat, Reps h μ (vs.take n) (ds.take n) :=
  Reps.ind (P := fun vs ds => ∀ n : Nat, Reps h μ (vs.take n) (ds.take n)) (fun n => by rw [List.take_nil, List.take_nil]; exact .nil) (fun _ _ _ _ a _ ih n => match n with | 0 => .nil | n + 1 => .cons a (ih n)) ds vs r
theorem Reps.drop {h : Heap} {μ : List Addr} {vs : List Value} {ds : List D} (r : Reps h μ vs ds) : ∀ n : Nat, Reps h μ (vs.drop n) (ds.drop n) :=
  Reps.ind (P := fun vs ds => ∀ n : Nat, Reps h μ (vs.drop n) (ds.drop n)) (fun n => by rw [List.drop_nil, List.drop_nil]; exact .nil) (fun _ _ _ _ a r ih n => match n with | 0 => .cons a r | n + 1 => ih n) ds vs r
theorem Reps.get {h : Heap} {μ : List Addr} {vs : List Value} {ds : List D} (r : Reps h μ vs ds) : ∀ {n : Nat} {d : D}, ds[n]? = some d → ∃ v, vs[n]? = some v ∧ Rep h μ v d :=
  Reps.ind (P := fun vs ds => ∀ {n : Nat} {d : D}, ds[n]? = some d → ∃ v, vs[n]? = some v ∧ Rep h μ v d) (fun {n _} e => nomatch (List.getElem?_nil (i := n)).symm.trans e) (fun v _ _ _ a _ ih {n _} e => match n with | 0 => ⟨v, rfl, Option.some.inj e ▸ a⟩ | _ + 1 => ih e) ds vs r
theorem Reps.many {h : Heap} {μ : List Addr} {vs : List Value} {ds : List D} (r : Reps h μ vs ds) (n : Nat) : Reps h μ (List.replicate n vs).flatten (List.replicate n ds).flatten := by
  induction n with
  | zero => exact .nil
  | succ n ih => exact r.append ih
theorem ints_cons {d : D} {ds : List D} {ns : List Int} (e : intsOf (d :: ds) = some ns) : ∃ i l, d = .int i ∧ intsOf ds = some l ∧ ns = i :: l := by
  cases d <;> first | (cases e; done) | skip
  obtain ⟨l, hl, rfl⟩ := Option.map_eq_some_iff.mp e
  exact ⟨_, l, rfl, hl, rfl⟩
theorem Reps.ints {h : Heap} {μ : List Addr} {vs : List Value} {ds : List D} (r : Reps h μ vs ds) : ∀ {ns : List Int}, intsOf ds = some ns → IntsAre vs ns :=
  Reps.ind (P := fun vs ds => ∀ {ns : List Int}, intsOf ds = some ns → IntsAre vs ns) (fun e => by cases e; exact .nil) (fun _ _ _ _ a _ ih {_} e => by
    obtain ⟨i, l, rfl, hl, rfl⟩ := ints_cons e
    obtain ⟨t, rfl⟩ := a.inv
    exact .cons _ _ (ih hl)) ds vs r

/-- a new object lies where no mutable one does -/
theorem fresh_at {h : Heap} {μ : List Addr} (hμ : ∀ a ∈ μ, ∃ o, h.get? a = some o) : h.objs.size ∉ μ := fun q => by
  obtain ⟨o, e⟩ := hμ _ q
  exact Nat.lt_irrefl _ (Heap.lt_size e)
theorem rep_newList {h : Heap} {μ : List Addr} (hμ : ∀ a ∈ μ, ∃ o, h.get? a = some o) {vs : List Value} {ds : List D} (r : Reps h μ vs ds) (hz : vs.length ≤ sizeLine) : Rep (h.push (listO vs 0)) μ (.ref h.objs.size) (.lst ds) :=
  .lst (Heap.get?_push_size _ rfl) (fresh_at hμ) hz (r.keeps fun _ _ e => Heap.get?_push_of_some _ e)
theorem rep_newTup {h : Heap} {μ : List Addr} (hμ : ∀ a ∈ μ, ∃ o, h.get? a = some o) {vs : List Value} {ds : List D} (r : Reps h μ vs ds) (hz : vs.length ≤ sizeLine) : Rep (h.push (tupO vs 0)) μ (.ref h.objs.size) (.tup ds) :=
  .tup (Heap.get?_push_size _ rfl) (fresh_at hμ) hz (r.keeps fun _ _ e => Heap.get?_push_of_some _ e)
theorem keeps_push {s : Shared} {o : Obj} {tk : Nat} : Keeps s { s with heap := s.heap.push o, toks := tk } := ⟨_, _, rfl, fun _ _ e => Heap.get?_push_of_some _ e⟩
theorem keeps_toks {s : Shared} {tk : Nat} : Keeps s { s with toks := tk } := ⟨_, _, rfl, fun _ _ e => e⟩
theorem keeps_refl {s : Shared} : Keeps s s := ⟨_, _, rfl, fun _ _ e => e⟩

theorem bits_small {x : Int} (h : small x = true) : Builtin.Int.intBits x ≤ 64 := by
  unfold small at h
  have h := of_decide_eq_true h
  unfold Builtin.Int.intBits
  split
  · omega
  · rename_i h0
    have hne : x.natAbs ≠ 0 := by
      intro q
      have : x = 0 := by omega
      subst this
      simp at h0
    have := (Nat.log2_lt hne (k := 62)).mpr h
    omega

section
variable {prog : Program} {w : World} {A : Around} {E : Value → Shared → Prop} {s : Shared} {μ : List Addr}

/-- what a plain operation ends in -/
noncomputable def OpP (s : Shared) (μ : List Addr) (d : D) : Value → Shared → Prop := fun v s' => Keeps s s' ∧ Rep s'.heap μ v d

theorem bin_ok (hμ : ∀ a ∈ μ, ∃ o, s.heap.get? a = some o) {op : Operator} {a b d : D} {va vb : Value} (e : binD op a b = some d) (ra : View s.heap μ va a) (rb : View s.heap μ vb b) :
    wpAny (model prog w) A (binaryOp op va vb) (OpP s μ d) E s := by
  unfold binD at e
  cases ha : asI a with
  | some x =>
    rw [ha] at e
    obtain ⟨y, hb, e⟩ := bindS e
    rw [asI_some ha] at ra
    rw [asI_some hb] at rb
    obtain ⟨t, rfl⟩ := ra.int; obtain ⟨u, rfl⟩ := rb.int
    cases op with
    | Add => cases e; exact add_int ⟨keeps_toks, .int _ _⟩
    | Sub => cases e; exact sub_int ⟨keeps_toks, .int _ _⟩
    | Mult =>
      have e : (if small x && small y then some (D.int (x * y)) else none) = some d := e
      split at e
      · rename_i hs; cases e
        exact mul_int ⟨keeps_toks, .int _ _⟩ (IntMulOk.of_left (bits_small (Bool.and_eq_true_iff.mp hs).1))
      · cases e
    | FloorDiv =>
      have e : (if y ≠ 0 && decide (y.natAbs < 1073741824) then some (D.int (x.fdiv y)) else none) = some d := e
      split at e
      · rename_i hs; cases e
        have hs' := Bool.and_eq_true_iff.mp hs
        exact floordiv_int (by simpa using hs'.1) ⟨keeps_toks, .int _ _⟩ (.inl (PyProof.noPylong_small (of_decide_eq_true hs'.2)))
      · cases e
    | Mod =>
      have e : (if y ≠ 0 then some (D.int (x.fmod y)) else none) = some d := e
      split at e
      · rename_i hs; cases e
        exact mod_int' (by simpa using hs) ⟨keeps_toks, .int _ _⟩
      · cases e
    | _ => cases e
  | none =>
    rw [ha] at e
    obtain ⟨lx, hl, e⟩ := bindS e
    rw [asL_some hl] at ra
    cases op <;> first | (cases e; done) | skip
    all_goals (obtain ⟨bb, hb, e⟩ := bindS e)
    · rw [asL_some hb] at rb
      obtain ⟨x, vs, n, rfl, hx, zx, rx⟩ := ra.lst; obtain ⟨y, ws, m, rfl, hy, zy, ry⟩ := rb.lst
      split at e
      · rename_i hs; cases e
        have hz : vs.length + ws.length ≤ sizeLine := by rw [rx.length, ry.length, sizeLine_eq]; exact hs
        refine P.add_list hx hy ⟨keeps_push, ?_⟩ (by simpa using hz)
        rw [List.append_toArray]
        exact rep_newList hμ (rx.append ry) (by simpa using hz)
      · cases e
    · rw [asI_some hb] at rb
      obtain ⟨x, vs, n, rfl, hx, zx, rx⟩ := ra.lst; obtain ⟨u, rfl⟩ := rb.int
      split at e
      · rename_i hs; cases e
        obtain ⟨h1, h2⟩ := Bool.and_eq_true_iff.mp hs
        have h1 := of_decide_eq_true h1
        have h2 : vs.length * bb.toNat ≤ 16777216 := by rw [rx.length]; exact of_decide_eq_true h2
        have hfl : (List.foldl (fun x1 x2 => x1 ++ x2) #[] (List.replicate (if vs.toArray.isEmpty = true then 0 else bb.toNat) vs.toArray)) = ((List.replicate bb.toNat vs).flatten).toArray := by
          have gen : ∀ (n : Nat) (acc : Array Value), List.foldl (fun x1 x2 => x1 ++ x2) acc (List.replicate n vs.toArray) = acc ++ ((List.replicate n vs).flatten).toArray := by
            intro n
            induction n with
            | zero => intro acc; simp
            | succ n ih => intro acc; rw [List.replicate_succ, List.foldl_cons, ih, List.replicate_succ, List.flatten_cons]; simp
          rw [gen]
          by_cases hv : vs = []
          · subst hv; simp
          · have : vs.toArray.isEmpty = false := by simp [hv]
            rw [this]; simp
        refine wpAny_binaryOp_repeat_ref (T := "list") (U := "int") (by decide) ⟨_, hx, rfl⟩ (fun s' => typeIs_int s' bb u) noFill_list_mul PySem.F.fills_int_mul PySem.F.slot_int_rmul repeat_list PySem.F.slot_int_index.lookup
          (call_meets PySem.F.slot_int_rmul (typeIs_int s bb u) PySem.F.entry_int_rmul (PySem.F.args_int_rmul_2 _ _) (int___rmul___int_list bb u x vs.toArray n)
            ⟨hx, rfl, ⟨_, hx, rfl⟩, call_meets PySem.F.slot_list_mul ⟨_, hx, rfl⟩ PySem.F.entry_list_mul (PySem.F.args_list_mul_2 _ _)
              (AutoListH.list___mul___list_int_3 x vs.toArray n bb u (by simp [Builtin.List.listFitsIndex]; omega) (by simp; omega) (by simp [Builtin.List.listTooLong, sizeLine]; omega))
              ⟨hx, ?_⟩⟩)
        refine ⟨keeps_push, ?_⟩
        rw [hfl]
        refine rep_newList hμ (rx.many _) ?_
        rw [sizeLine_eq]
        simp only [List.length_flatten, List.map_replicate, List.sum_replicate_nat]
        rw [Nat.mul_comm]; exact h2
      · cases e
end

end YV
end

section
set_option autoImplicit false
set_option linter.unusedVariables false
set_option maxRecDepth 10000
namespace YV
open PySem PyProof.Rows

theorem Rep.readss {h : Heap} {μ : List Addr} : (∀ {v : Value} {d : D}, Rep h μ v d → ∀ (p : PyData), toP d = some p → ∃ as, Reads h v p as) ∧ ∀ {vs : List Value} {ds : List D}, Reps h μ vs ds → ∀ (ps : List PyData), toPs ds = some ps → ∃ as, ReadsAll h vs ps as := by
  have no : ∀ {v : Value} (p : PyData), (Option.none : Option PyData) = some p → ∃ as, Reads h v p as := fun _ e => nomatch e
  have n : ∀ (p : PyData), toP .none = some p → ∃ as, Reads h .none p as := fun _ e => Option.some.inj e ▸ ⟨_, .none⟩
  have bool : ∀ (b : Bool) (p : PyData), toP (.bool b) = some p → ∃ as, Reads h (.bool b) p as := fun b _ e => Option.some.inj e ▸ ⟨_, .bool b⟩
  have int : ∀ (i : Int) (t : Tok) (p : PyData), toP (.int i) = some p → ∃ as, Reads h (.int i t) p as := fun i t _ e => Option.some.inj e ▸ ⟨_, .int i t⟩
  have str : ∀ (i : Str) (t : Tok) (p : PyData), toP (.str i) = some p → ∃ as, Reads h (.str i t) p as := fun i t _ e => Option.some.inj e ▸ ⟨_, .str i t⟩
  have tup : ∀ {a : Addr} {vs : List Value} {n : Nat} {ds : List D}, h.get? a = some (tupO vs n) → a ∉ μ → vs.length ≤ sizeLine → Reps h μ vs ds → (∀ (ps : List PyData), toPs ds = some ps → ∃ as, ReadsAll h vs ps as) → ∀ (p : PyData), toP (.tup ds) = some p → ∃ as, Reads h (.ref a) p as := fun {_ _ _ ds} e' _ _ _ ih _ e => by
    obtain ⟨ps, hps, rfl⟩ := Option.map_eq_some_iff.mp e
    obtain ⟨as, q⟩ := ih _ hps
    exact ⟨_, reads_tuple_at e' rfl rfl q⟩
  have lst : ∀ {a : Addr} {vs : List Value} {n : Nat} {ds : List D}, h.get? a = some (listO vs n) → a ∉ μ → vs.length ≤ sizeLine → Reps h μ vs ds → (∀ (ps : List PyData), toPs ds = some ps → ∃ as, ReadsAll h vs ps as) → ∀ (p : PyData), toP (.lst ds) = some p → ∃ as, Reads h (.ref a) p as := fun {_ _ _ ds} e' _ _ _ ih _ e => by
    obtain ⟨ps, hps, rfl⟩ := Option.map_eq_some_iff.mp e
    obtain ⟨as, q⟩ := ih _ hps
    exact ⟨_, reads_list_at e' rfl rfl q⟩
  have nil : ∀ (ps : List PyData), toPs [] = some ps → ∃ as, ReadsAll h [] ps as := fun _ e => Option.some.inj e ▸ ⟨_, .nil⟩
  have cons : ∀ {v : Value} {d : D} {vs : List Value} {ds : List D}, Rep h μ v d → Reps h μ vs ds → (∀ (p : PyData), toP d = some p → ∃ as, Reads h v p as) → (∀ (ps : List PyData), toPs ds = some ps → ∃ as, ReadsAll h vs ps as) → ∀ (ps : List PyData), toPs (d :: ds) = some ps → ∃ as, ReadsAll h (v :: vs) ps as := fun {_ d _ ds} _ _ i1 i2 _ e => by
    obtain ⟨p, hp, e⟩ := bindS e
    obtain ⟨ps, hps, rfl⟩ := Option.map_eq_some_iff.mp e
    obtain ⟨as, r1⟩ := i1 _ hp
    obtain ⟨bs, r2⟩ := i2 _ hps
    exact ⟨_, .cons r1 r2⟩
  constructor
  · intro v d r
    exact Rep.rec (motive_1 := fun v d _ => ∀ (p : PyData), toP d = some p → ∃ as, Reads h v p as) (motive_2 := fun vs ds _ => ∀ (ps : List PyData), toPs ds = some ps → ∃ as, ReadsAll h vs ps as) n bool int str tup lst (fun _ _ e => no _ e) (fun _ _ _ _ e => no _ e) (fun _ _ e => no _ e) (fun _ _ _ _ e => no _ e) (fun _ _ e => no _ e) (fun _ _ e => no _ e) nil cons r
  · intro v d r
    exact Reps.rec (motive_1 := fun v d _ => ∀ (p : PyData), toP d = some p → ∃ as, Reads h v p as) (motive_2 := fun vs ds _ => ∀ (ps : List PyData), toPs ds = some ps → ∃ as, ReadsAll h vs ps as) n bool int str tup lst (fun _ _ e => no _ e) (fun _ _ _ _ e => no _ e) (fun _ _ e => no _ e) (fun _ _ _ _ e => no _ e) (fun _ _ e => no _ e) (fun _ _ e => no _ e) nil cons r

theorem View.reads {h : Heap} {μ : List Addr} {v : Value} {d : D} (x : View h μ v d) {p : PyData} (e : toP d = some p) : ∃ as, Reads h v p as := by
  rcases x with x | ⟨a, vs, n, ds', rfl, rfl, h1, h2, h3⟩
  · exact Rep.readss.1 x _ e
  · obtain ⟨ps, hps, rfl⟩ := Option.map_eq_some_iff.mp e
    obtain ⟨as, q⟩ := Rep.readss.2 h3 _ hps
    exact ⟨_, reads_list_at h1 rfl rfl q⟩

/-- a part of a slice: given or not -/
noncomputable def RepO (h : Heap) (μ : List Addr) (v : Value) : Option D → Prop
  | some d => Rep h μ v d
  | none => v = .none

section
variable {prog : Program} {w : World} {A : Around} {E : Value → Shared → Prop} {s : Shared} {μ : List Addr}

theorem is_type {X Y : String} {Q : Value → Shared → Prop} (h : Q (.bool (X == Y)) s) : wpAny (model prog w) A (compareOp .Is (.type X) (.type Y)) Q E s := by
  refine wpAny_pure (a := Value.bool (Value.type X == Value.type Y)) ?_
  have : (Value.type X == Value.type Y) = (X == Y) := by
    by_cases q : X = Y
    · subst q; simp
    · have h1 : (X == Y) = false := by simpa using q
      rw [h1]
      simpa using q
  rw [this]; exact h

theorem cmp_ok (hu : A.units + 64 < cLine) {op : CmpOp} {a b : D} {c : Bool} {va vb : Value} (e : cmpD op a b = some c) (ra : View s.heap μ va a) (rb : View s.heap μ vb b) :
    wpAny (model prog w) A (compareOp op va vb) (fun v s' => v = .bool c ∧ s' = s) E s := by
  have eqc : ∀ c', eqD a b = some c' → ∃ p q, toP a = some p ∧ toP b = some q ∧ SeqAt.shaped p = true ∧ SeqAt.shaped q = true ∧ c' = PyData.eqv p q := by
    intro c' e
    unfold eqD at e
    split at e
    · rename_i p q hp hq
      split at e
      · rename_i hs
        cases e
        have := Bool.and_eq_true_iff.mp hs
        exact ⟨p, q, hp, hq, this.1, this.2, rfl⟩
      · cases e
    · cases e
  unfold cmpD at e
  have two : ∀ {f : Int → Int → Option Bool}, ((asI a).bind fun x => (asI b).bind fun y => f x y) = some c → ∃ x y t u, va = .int x t ∧ vb = .int y u ∧ f x y = some c := fun e => by
    obtain ⟨x, hx, e⟩ := bindS e
    obtain ⟨y, hy, e⟩ := bindS e
    rw [asI_some hx] at ra
    rw [asI_some hy] at rb
    obtain ⟨t, rfl⟩ := ra.int; obtain ⟨u, rfl⟩ := rb.int
    exact ⟨x, y, t, u, rfl, rfl, e⟩
  cases op with
  | Lt => obtain ⟨x, y, t, u, rfl, rfl, e⟩ := two e; cases e; exact lt_int ⟨rfl, rfl⟩
  | LtE => obtain ⟨x, y, t, u, rfl, rfl, e⟩ := two e; cases e; exact PyProof.Rows.le_int ⟨rfl, rfl⟩
  | Gt => obtain ⟨x, y, t, u, rfl, rfl, e⟩ := two e; cases e; exact gt_int ⟨rfl, rfl⟩
  | GtE => obtain ⟨x, y, t, u, rfl, rfl, e⟩ := two e; cases e; exact PyProof.Rows.ge_int ⟨rfl, rfl⟩
  | Is =>
    obtain ⟨x, hx, e⟩ := bindS e
    obtain ⟨y, hy, e⟩ := bindS e
    rw [asT_some hx] at ra
    rw [asT_some hy] at rb
    obtain rfl := ra.ty; obtain rfl := rb.ty; cases e; exact is_type ⟨rfl, rfl⟩
  | In =>
    obtain ⟨x, hx, e⟩ := bindS e
    obtain ⟨ds, hd, e⟩ := bindS e
    obtain ⟨l, hl, e⟩ := bindS e
    rw [asI_some hx] at ra
    rw [asL_some hd] at rb
    obtain ⟨t, rfl⟩ := ra.int; obtain ⟨y, ws, m, rfl, hy, zy, ry⟩ := rb.lst
    cases e; exact in_list_ints ⟨_, hy, rfl, _, rfl⟩ (ry.ints hl) ⟨rfl, rfl⟩
  | NotIn =>
    obtain ⟨x, hx, e⟩ := bindS e
    obtain ⟨ds, hd, e⟩ := bindS e
    obtain ⟨l, hl, e⟩ := bindS e
    rw [asI_some hx] at ra
    rw [asL_some hd] at rb
    obtain ⟨t, rfl⟩ := ra.int; obtain ⟨y, ws, m, rfl, hy, zy, ry⟩ := rb.lst
    cases e; exact notin_list_ints ⟨_, hy, rfl, _, rfl⟩ (ry.ints hl) ⟨rfl, rfl⟩
  | Eq =>
    obtain ⟨p, q, hp, hq, sp, sq, rfl⟩ := eqc _ e
    obtain ⟨as, r1⟩ := ra.reads hp
    obtain ⟨bs, r2⟩ := rb.reads hq
    exact eq_dataH r1 r2 sp sq hu ⟨rfl, rfl⟩
  | NotEq =>
    obtain ⟨c', e', rfl⟩ := Option.map_eq_some_iff.mp e
    obtain ⟨p, q, hp, hq, sp, sq, rfl⟩ := eqc _ e'
    obtain ⟨as, r1⟩ := ra.reads hp
    obtain ⟨bs, r2⟩ := rb.reads hq
    exact ne_dataH r1 r2 sp sq hu ⟨rfl, rfl⟩
  | _ => cases e

theorem typeIs_list {a : Addr} {vs : List Value} {n : Nat} (h : s.heap.get? a = some (listO vs n)) : s.TypeIs (.ref a) "list" := ⟨_, h, rfl⟩
theorem typeIs_tup {a : Addr} {vs : List Value} {n : Nat} (h : s.heap.get? a = some (tupO vs n)) : s.TypeIs (.ref a) "tuple" := ⟨_, h, rfl⟩

theorem lt_size63 {n : Nat} {k : Int} (h0 : 0 ≤ k) (h : k.toNat < n) (hz : n ≤ sizeLine) : k < 2 ^ 63 := by
  rw [sizeLine_eq] at hz; omega

/-- an item by its place -/
theorem idx_ok {a i d : D} {va vi : Value} (e : idxD a i = some d) (ra : View s.heap μ va a) (ri : View s.heap μ vi i) {value slice : Expr} (hs : ∀ o j, subscripted slice false o j = operate [o, j] (getItem o j)) :
    wpAny (model prog w) A (subscriptTail value slice va vi) (fun v s' => s' = s ∧ Rep s.heap μ v d) E s := by
  unfold idxD at e
  split at e
  · obtain ⟨x, vs, n, rfl, hx, zx, rx⟩ := ra.lst; obtain ⟨u, rfl⟩ := ri.int
    split at e
    · rename_i h0
      obtain ⟨v, hv, r⟩ := rx.get e
      have hlt : _ < vs.length := (List.getElem?_eq_some_iff.mp hv).1
      exact tail_any (typeIs_list hx) slot_list_getitem.lookup (wpAny_getItem_list ⟨_, hx, rfl, n, rfl⟩ h0 (lt_size63 h0 hlt zx) (by simpa using hv) ⟨rfl, r⟩) (hs _ _)
    · cases e
  · obtain ⟨x, vs, n, rfl, hx, zx, rx⟩ := ra.tup; obtain ⟨u, rfl⟩ := ri.int
    rename_i k
    split at e
    · rename_i h0
      obtain ⟨v, hv, r⟩ := rx.get e
      have hlt : k.toNat < vs.length := (List.getElem?_eq_some_iff.mp hv).1
      have hk := lt_size63 h0 hlt zx
      refine item_tupleT (l := vs) (j := k.toNat) ⟨_, hx, rfl, n, rfl⟩ (by omega) hk ?_ hv ⟨rfl, r⟩ (hs _ _)
      unfold seqIndex?
      have h1 : ¬ k < 0 := by omega
      simp only [h1, if_false]
      rw [if_pos (by simp; omega)]
    · cases e
  · cases e

theorem part_ok {v : Value} {d : Option D} {i : Option Int} (e : partD d = some i) (hv : RepO s.heap μ v d) : IsPart v i ∧ ∀ j, i = some j → 0 ≤ j := by
  cases d with
  | none => cases e; have hv : v = .none := hv; subst hv; exact ⟨.none, fun j q => by cases q⟩
  | some d =>
    cases d with
    | int k =>
      have e : (if 0 ≤ k then some (some k) else none) = some i := e
      by_cases h0 : 0 ≤ k
      · rw [if_pos h0] at e
        cases e
        have hv : Rep s.heap μ v (.int k) := hv
        cases hv
        exact ⟨.int _ _, fun j q => by cases q; exact h0⟩
      · rw [if_neg h0] at e; cases e
    | _ => cases e

theorem clip_of {n : Nat} {j : Int} (h : 0 ≤ j) : clipAt n j = min j.toNat n := by
  obtain ⟨m, rfl⟩ := Int.eq_ofNat_of_zero_le h
  unfold clipAt
  rw [if_neg (Int.not_lt.mpr h), Int.max_eq_right (Int.le_min.mpr ⟨h, Int.natCast_nonneg n⟩), Int.toNat_natCast]
  rcases Nat.le_total m n with q | q
  · rw [Int.min_eq_left (Int.ofNat_le.mpr q), Nat.min_eq_left q, Int.toNat_natCast]
  · rw [Int.min_eq_right (Int.ofNat_le.mpr q), Nat.min_eq_right q, Int.toNat_natCast]
theorem cut_list {α : Type} (l : List α) (a b : Nat) : (l.drop (min a l.length)).take (min b l.length - min a l.length) = (l.take b).drop a := by
  rw [List.drop_take]
  rcases Nat.le_total a l.length with h | h
  · rw [Nat.min_eq_left h, ← Nat.sub_min_sub_right, ← List.length_drop, ← List.take_eq_take_min]
  · rw [Nat.min_eq_right h, List.drop_eq_nil_of_le (Nat.le_refl _), List.drop_eq_nil_of_le h, List.take_nil, List.take_nil]
theorem cut_pick {h : Heap} {vs : List Value} {ds : List D} (r : Reps h μ vs ds) {lo hi : Option Int} (hlo : ∀ j, lo = some j → 0 ≤ j) (hhi : ∀ j, hi = some j → 0 ≤ j) :
    Reps h μ (slicePick vs.toArray lo hi none).toList (cutL ds lo hi) ∧ (slicePick vs.toArray lo hi none).toList.length ≤ vs.length := by
  have e : (slicePick vs.toArray lo hi none).toList = (vs.drop (lo.elim 0 (clipAt vs.length))).take (hi.elim vs.length (clipAt vs.length) - lo.elim 0 (clipAt vs.length)) := by
    rw [slicePick_plain]; simp
  rw [e]
  have hi' : ∃ b, hi.elim vs.length (clipAt vs.length) = min b vs.length ∧ Reps h μ (vs.take b) (cutHi ds hi) := by
    cases hi with
    | none => exact ⟨vs.length, (Nat.min_self _).symm, by rw [List.take_length]; exact r⟩
    | some j => exact ⟨j.toNat, clip_of (hhi j rfl), r.take _⟩
  have lo' : ∃ a, lo.elim 0 (clipAt vs.length) = min a vs.length ∧ ∀ {ws : List Value} {es : List D}, Reps h μ ws es → Reps h μ (ws.drop a) (cutLo es lo) := by
    cases lo with
    | none => exact ⟨0, (Nat.zero_min _).symm, fun r => r⟩
    | some j => exact ⟨j.toNat, clip_of (hlo j rfl), fun r => r.drop _⟩
  obtain ⟨b, e1, r1⟩ := hi'
  obtain ⟨a, e2, r2⟩ := lo'
  rw [e1, e2, cut_list]
  exact ⟨r2 r1, by rw [List.length_drop, List.length_take]; exact Nat.le_trans (Nat.sub_le _ _) (Nat.min_le_right _ _)⟩
end

end YV
end

section
set_option autoImplicit false
set_option linter.unusedVariables false
set_option maxRecDepth 10000
namespace YV
open PySem PyProof.Rows

theorem intsAre_get {vs : List Value} {ns : List Int} (h : IntsAre vs ns) : ∀ {i : Nat} {v : Value}, vs[i]? = some v → ∃ t, v = .int (ns.getD i 0) t := by
  induction h with
  | nil => intro i v e; simp at e
  | cons n t h ih =>
    intro i v e
    cases i with
    | zero => simp at e; subst e; exact ⟨t, rfl⟩
    | succ i => simpa using ih (by simpa using e)

theorem preSum_getD (ns : List Int) : ∀ k, k ≤ ns.length → preSum (fun i => ns.getD i 0) k = (ns.take k).sum := by
  intro k
  induction k with
  | zero => intro _; simp [preSum]
  | succ k ih =>
    intro hk
    rw [preSum, ih (by omega), List.take_add_one]
    have : ns[k]? = some (ns.getD k 0) := by
      rw [List.getD_eq_getElem?_getD, List.getElem?_eq_getElem (by omega)]; rfl
    rw [this]; simp

theorem sum_take_small (ns : List Int) (h : ns.all tiny = true) : ∀ k, ((ns.take k).sum).natAbs ≤ ns.length * 2 ^ 40 := by
  induction ns with
  | nil => intro k; simp
  | cons x l ih =>
    intro k
    simp only [List.all_cons, Bool.and_eq_true] at h
    have hx : x.natAbs < 2 ^ 40 := of_decide_eq_true h.1
    cases k with
    | zero => simp
    | succ k =>
      have := ih h.2 k
      simp only [List.take_succ_cons, List.sum_cons, List.length_cons]
      omega

theorem sumFits_of {ns : List Int} (h : ns.all tiny = true) (hl : ns.length ≤ 1000)   : PySem.SumFits ns := by
  intro j hj
  have h1 := sum_take_small ns h (j + 1)
  have h2 : tiny (ns.getD j 0) = true := by
    have := List.all_eq_true.mp h (ns[j]) (List.getElem_mem _)
    rw [List.getD_eq_getElem?_getD, List.getElem?_eq_getElem hj]; exact this
  have h2 := of_decide_eq_true h2
  have h3 : ns.length * 2 ^ 40 ≤ 1000 * 2 ^ 40 := Nat.mul_le_mul_right _ hl
  constructor <;> constructor <;> omega

theorem best_min (ns : List Int) (x : Int) (l : List Int) (e : ns = x :: l) : ∀ k, k < ns.length → argBest (fun i j => decide (ns.getD i 0 < ns.getD j 0)) k < ns.length ∧
    ns.getD (argBest (fun i j => decide (ns.getD i 0 < ns.getD j 0)) k) 0 = (l.take k).foldl min x := by
  intro k
  induction k with
  | zero => intro h; subst e; simp [argBest]
  | succ k ih =>
    intro h
    obtain ⟨h1, h2⟩ := ih (by omega)
    rw [argBest]
    have hk : l[k]? = some (ns.getD (k + 1) 0) := by
      subst e
      have : k < l.length := by simpa using h
      rw [List.getD_cons_succ, List.getD_eq_getElem?_getD, List.getElem?_eq_getElem this]; rfl
    rw [List.take_add_one, hk, List.foldl_append]
    split
    · rename_i hb
      have hb := of_decide_eq_true hb
      refine ⟨h, ?_⟩
      simp only [Option.toList, List.foldl_cons, List.foldl_nil]
      rw [← h2]; omega
    · rename_i hb
      have hb : ¬ _ := fun q => hb (decide_eq_true q)
      refine ⟨h1, ?_⟩
      simp only [Option.toList, List.foldl_cons, List.foldl_nil]
      rw [← h2]; omega
theorem best_max (ns : List Int) (x : Int) (l : List Int) (e : ns = x :: l) : ∀ k, k < ns.length → argBest (fun i j => decide (ns.getD j 0 < ns.getD i 0)) k < ns.length ∧
    ns.getD (argBest (fun i j => decide (ns.getD j 0 < ns.getD i 0)) k) 0 = (l.take k).foldl max x := by
  intro k
  induction k with
  | zero => intro h; subst e; simp [argBest]
  | succ k ih =>
    intro h
    obtain ⟨h1, h2⟩ := ih (by omega)
    rw [argBest]
    have hk : l[k]? = some (ns.getD (k + 1) 0) := by
      subst e
      have : k < l.length := by simpa using h
      rw [List.getD_cons_succ, List.getD_eq_getElem?_getD, List.getElem?_eq_getElem this]; rfl
    rw [List.take_add_one, hk, List.foldl_append]
    split
    · rename_i hb
      have hb := of_decide_eq_true hb
      refine ⟨h, ?_⟩
      simp only [Option.toList, List.foldl_cons, List.foldl_nil]
      rw [← h2]; omega
    · rename_i hb
      have hb : ¬ _ := fun q => hb (decide_eq_true q)
      refine ⟨h1, ?_⟩
      simp only [Option.toList, List.foldl_cons, List.foldl_nil]
      rw [← h2]; omega

section
variable {prog : Program} {w : World} {A : Around} {E : Value → Shared → Prop} {s : Shared} {μ : List Addr}

/-- a list's iterator, ready to walk -/
theorem iter_walks {A' : Around} (hh : A'.handled = none) {l : Addr} {vs : List Value} {n : Nat} (hx : s.heap.get? l = some (listO vs n)) :
    Walks prog w A' s.heap.objs.size [s.heap.objs.size, l] [s.heap.objs.size] vs.toArray.size (fun i v => vs.toArray[i]? = some v) (fun i h => h.IsListIter s.heap.objs.size l i ∧ h.IsList l vs.toArray) :=
  Walks.list hh _ _ (Nat.ne_of_lt (Heap.lt_size hx)) _

theorem iter_start {l : Addr} {vs : List Value} {n : Nat} (hx : s.heap.get? l = some (listO vs n)) :
    (s.heap.push { cls := .type "list_iterator", data := .fields #[.ref l, .int 0 0] }).IsListIter s.heap.objs.size l 0 ∧ (s.heap.push { cls := .type "list_iterator", data := .fields #[.ref l, .int 0 0] }).IsList l vs.toArray :=
  ⟨⟨_, Heap.get?_push_size _ rfl, rfl, rfl⟩, ⟨_, Heap.get?_push_of_some _ hx, rfl, n, rfl⟩⟩

theorem iter_below {l : Addr} {vs : List Value} {n : Nat} {o : Obj} (hx : s.heap.get? l = some (listO vs n)) : ∀ b ∈ [s.heap.objs.size, l], b < (s.heap.push o).objs.size := by
  intro b hb
  rw [Heap.size_push]
  simp only [List.mem_cons, List.not_mem_nil, or_false] at hb
  rcases hb with rfl | rfl
  · exact Nat.lt_succ_self _
  · exact Nat.lt_succ_of_lt (Heap.lt_size hx)

theorem iter_keeps {o : Obj} {h' : Heap} {tk : Nat} (hk : ∀ b o', b ∉ [s.heap.objs.size] → (s.heap.push o).get? b = some o' → h'.get? b = some o') : Keeps s { s with heap := h', toks := tk } :=
  ⟨_, _, rfl, fun b o' e => hk b o' (by simp; exact Nat.ne_of_lt (Heap.lt_size e)) (Heap.get?_push_of_some _ e)⟩

theorem sum_ok (hh : A.handled = none) {l : Addr} {vs : List Value} {n : Nat} {ns : List Int} (hx : s.heap.get? l = some (listO vs n)) (hi : IntsAre vs ns) (hfit   : PySem.SumFits ns) :
    wpAny (model prog w) A (call (.builtin "sum") [.ref l]) (fun v s' => (∃ t, v = .int ns.sum t) ∧ Keeps s s') E s := by
  refine call_sum_walk (wpAny_pyIter_list ⟨_, hx, rfl, n, rfl⟩ ?_)
  have hl := hi.length
  refine ⟨_, _, _, _, _, _, fun i => ns.getD i 0, rfl, iter_walks (A' := A.in1) hh hx, iter_start hx, iter_below hx, fun i v hv => intsAre_get hi (by simpa using hv), fun j hj => ?_, fun h' tk t' hk => ⟨⟨t', ?_⟩, iter_keeps hk⟩⟩
  · have hj' : j < ns.length := by simpa [hl] using hj
    obtain ⟨f1, f2⟩ := hfit j hj'
    exact ⟨f1, by rw [preSum_getD ns (j + 1) (by omega)]; exact f2⟩
  · rw [preSum_getD ns _ (by simp [hl]), List.take_of_length_le (by simp [hl])]

theorem min_ok (hh : A.handled = none) {l : Addr} {vs : List Value} {n : Nat} {x : Int} {l' : List Int} (hx : s.heap.get? l = some (listO vs n)) (hi : IntsAre vs (x :: l')) :
    wpAny (model prog w) A (call (.builtin "min") [.ref l]) (fun v s' => (∃ t, v = .int (l'.foldl min x) t) ∧ Keeps s s') E s := by
  refine call_min_walk (wpAny_pyIter_list ⟨_, hx, rfl, n, rfl⟩ ?_)
  have hl := hi.length
  have hn : vs.toArray.size = (x :: l').length := by simp [hl]
  refine ⟨_, _, _, _, _, _, fun i j => decide ((x :: l').getD i 0 < (x :: l').getD j 0), rfl, iter_walks (A' := A.in1) hh hx, iter_start hx, iter_below hx, by rw [hn]; simp, ?_, fun v h' tk hP hk => ⟨?_, iter_keeps hk⟩⟩
  · intro i j vi vj s' Q' E' hvi hvj hQ
    obtain ⟨t, rfl⟩ := intsAre_get hi (i := i) (by simpa using hvi)
    obtain ⟨u, rfl⟩ := intsAre_get hi (i := j) (by simpa using hvj)
    exact wpAny_lt_int (w := w) (A := A.in1) hQ
  · obtain ⟨b1, b2⟩ := best_min (x :: l') x l' rfl ((x :: l').length - 1) (by simp)
    rw [hn] at hP
    obtain ⟨t, ht⟩ := intsAre_get hi (i := argBest _ ((x :: l').length - 1)) (by rw [← hP]; exact (List.getElem?_toArray).symm)
    refine ⟨t, ?_⟩
    rw [ht, b2, List.take_of_length_le (by simp)]

theorem max_ok (hh : A.handled = none) {l : Addr} {vs : List Value} {n : Nat} {x : Int} {l' : List Int} (hx : s.heap.get? l = some (listO vs n)) (hi : IntsAre vs (x :: l')) :
    wpAny (model prog w) A (call (.builtin "max") [.ref l]) (fun v s' => (∃ t, v = .int (l'.foldl max x) t) ∧ Keeps s s') E s := by
  refine call_max_walk (wpAny_pyIter_list ⟨_, hx, rfl, n, rfl⟩ ?_)
  have hl := hi.length
  have hn : vs.toArray.size = (x :: l').length := by simp [hl]
  refine ⟨_, _, _, _, _, _, fun i j => decide ((x :: l').getD j 0 < (x :: l').getD i 0), rfl, iter_walks (A' := A.in1) hh hx, iter_start hx, iter_below hx, by rw [hn]; simp, ?_, fun v h' tk hP hk => ⟨?_, iter_keeps hk⟩⟩
  · intro i j vi vj s' Q' E' hvi hvj hQ
    obtain ⟨t, rfl⟩ := intsAre_get hi (i := i) (by simpa using hvi)
    obtain ⟨u, rfl⟩ := intsAre_get hi (i := j) (by simpa using hvj)
    exact gt_int (w := w) (A := A.in1) hQ
  · obtain ⟨b1, b2⟩ := best_max (x :: l') x l' rfl ((x :: l').length - 1) (by simp)
    rw [hn] at hP
    obtain ⟨t, ht⟩ := intsAre_get hi (i := argBest _ ((x :: l').length - 1)) (by rw [← hP]; exact (List.getElem?_toArray).symm)
    refine ⟨t, ?_⟩
    rw [ht, b2, List.take_of_length_le (by simp)]
end

end YV
end

section
set_option autoImplicit false
set_option linter.unusedVariables false
set_option maxRecDepth 10000
namespace YV
open PySem PyProof.Rows

section
variable {prog : Program} {w : World} {A : Around} {E : Value → Shared → Prop} {s : Shared} {μ : List Addr}

theorem min2_ok (hh : A.handled = none) {x y : Int} {t u : Tok} : wpAny (model prog w) A (call (.builtin "min") [.int x t, .int y u]) (fun v s' => (∃ t, v = .int (min x y) t) ∧ Keeps s s') E s := by
  refine call_min_two ?_
  have hT : (s.heap.push { cls := .type "tuple", data := .seq #[.int x t, .int y u] }).IsTuple s.heap.objs.size #[.int x t, .int y u] := ⟨_, Heap.get?_push_size _ rfl, rfl, _, rfl⟩
  refine wpAny_pyIter_tuple hT ?_
  have hne : s.heap.objs.size ≠ (s.heap.push { cls := .type "tuple", data := .seq #[.int x t, .int y u] }).objs.size := by rw [Heap.size_push]; exact Nat.ne_of_lt (Nat.lt_succ_self _)
  have hi : IntsAre [.int x t, .int y u] [x, y] := .cons _ _ (.cons _ _ .nil)
  refine ⟨_, _, _, _, _, _, fun i j => decide ([x, y].getD i 0 < [x, y].getD j 0), rfl, Walks.tuple (A := A.in1) hh _ _ hne #[.int x t, .int y u], ⟨⟨_, Heap.get?_push_size _ rfl, rfl, rfl⟩, ⟨_, Heap.get?_push_of_some _ (Heap.get?_push_size _ rfl), rfl, _, rfl⟩⟩, ?_, by simp, ?_, fun v h' tk hP hk => ⟨?_, ?_⟩⟩
  · intro b hb
    simp only [Heap.size_push, List.mem_cons, List.not_mem_nil, or_false] at hb ⊢
    rcases hb with rfl | rfl
    · exact Nat.lt_succ_self _
    · exact Nat.lt_succ_of_lt (Nat.lt_succ_self _)
  · intro i j vi vj s' Q' E' hvi hvj hQ
    obtain ⟨t, rfl⟩ := intsAre_get hi (i := i) (by simpa using hvi)
    obtain ⟨u, rfl⟩ := intsAre_get hi (i := j) (by simpa using hvj)
    exact wpAny_lt_int (w := w) (A := A.in1) hQ
  · obtain ⟨b1, b2⟩ := best_min [x, y] x [y] rfl 1 (by simp)
    obtain ⟨t', ht⟩ := intsAre_get hi (i := argBest (fun i j => decide ([x, y].getD i 0 < [x, y].getD j 0)) 1) (v := v) (by simpa using hP)
    refine ⟨t', ?_⟩
    rw [ht, b2]; simp
  · refine ⟨_, _, rfl, fun b o e => hk b o ?_ (Heap.get?_push_of_some _ (Heap.get?_push_of_some _ e))⟩
    have := Heap.lt_size e
    simp only [Heap.size_push, List.mem_cons, List.not_mem_nil, or_false]
    exact fun q => Nat.lt_irrefl _ (Nat.lt_trans (q ▸ this) (Nat.lt_succ_self _))
theorem max2_ok (hh : A.handled = none) {x y : Int} {t u : Tok} : wpAny (model prog w) A (call (.builtin "max") [.int x t, .int y u]) (fun v s' => (∃ t, v = .int (max x y) t) ∧ Keeps s s') E s := by
  refine call_max_two ?_
  have hT : (s.heap.push { cls := .type "tuple", data := .seq #[.int x t, .int y u] }).IsTuple s.heap.objs.size #[.int x t, .int y u] := ⟨_, Heap.get?_push_size _ rfl, rfl, _, rfl⟩
  refine wpAny_pyIter_tuple hT ?_
  have hne : s.heap.objs.size ≠ (s.heap.push { cls := .type "tuple", data := .seq #[.int x t, .int y u] }).objs.size := by rw [Heap.size_push]; exact Nat.ne_of_lt (Nat.lt_succ_self _)
  have hi : IntsAre [.int x t, .int y u] [x, y] := .cons _ _ (.cons _ _ .nil)
  refine ⟨_, _, _, _, _, _, fun i j => decide ([x, y].getD j 0 < [x, y].getD i 0), rfl, Walks.tuple (A := A.in1) hh _ _ hne #[.int x t, .int y u], ⟨⟨_, Heap.get?_push_size _ rfl, rfl, rfl⟩, ⟨_, Heap.get?_push_of_some _ (Heap.get?_push_size _ rfl), rfl, _, rfl⟩⟩, ?_, by simp, ?_, fun v h' tk hP hk => ⟨?_, ?_⟩⟩
  · intro b hb
    simp only [Heap.size_push, List.mem_cons, List.not_mem_nil, or_false] at hb ⊢
    rcases hb with rfl | rfl
    · exact Nat.lt_succ_self _
    · exact Nat.lt_succ_of_lt (Nat.lt_succ_self _)
  · intro i j vi vj s' Q' E' hvi hvj hQ
    obtain ⟨t, rfl⟩ := intsAre_get hi (i := i) (by simpa using hvi)
    obtain ⟨u, rfl⟩ := intsAre_get hi (i := j) (by simpa using hvj)
    exact gt_int (w := w) (A := A.in1) hQ
  · obtain ⟨b1, b2⟩ := best_max [x, y] x [y] rfl 1 (by simp)
    obtain ⟨t', ht⟩ := intsAre_get hi (i := argBest (fun i j => decide ([x, y].getD j 0 < [x, y].getD i 0)) 1) (v := v) (by simpa using hP)
    refine ⟨t', ?_⟩
    rw [ht, b2]; simp
  · refine ⟨_, _, rfl, fun b o e => hk b o ?_ (Heap.get?_push_of_some _ (Heap.get?_push_of_some _ e))⟩
    have := Heap.lt_size e
    simp only [Heap.size_push, List.mem_cons, List.not_mem_nil, or_false]
    exact fun q => Nat.lt_irrefl _ (Nat.lt_trans (q ▸ this) (Nat.lt_succ_self _))

/-- data handed on as they stand -/
inductive Views (h : Heap) (μ : List Addr) : List Value → List D → Prop where
  | nil : Views h μ [] []
  | cons {v : Value} {d : D} {vs : List Value} {ds : List D} : View h μ v d → Views h μ vs ds → Views h μ (v :: vs) (d :: ds)

theorem one_of {F : List D → Option D} {ds : List D} {vs : List Value} {d : D} (r : Views s.heap μ vs ds) (h0 : F [] = none) (h2 : ∀ a b l, F (a :: b :: l) = none) (e : F ds = some d) : ∃ v a, vs = [v] ∧ ds = [a] ∧ View s.heap μ v a ∧ F [a] = some d := by
  rcases r with _ | ⟨r1, r⟩
  · rw [h0] at e; cases e
  · rcases r with _ | ⟨r2, r⟩
    · exact ⟨_, _, rfl, rfl, r1, e⟩
    · rw [h2] at e; cases e
theorem fold_ok {id : String} {f : Int → Int → Int} {ds : List D} {vs : List Value} {d : D} (e : foldD f ds = some d) (r : Views s.heap μ vs ds)
    (h1 : ∀ {l : Addr} {ws : List Value} {n : Nat} {x : Int} {l' : List Int}, s.heap.get? l = some (listO ws n) → IntsAre ws (x :: l') → wpAny (model prog w) A (call (.builtin id) [.ref l]) (fun v s' => (∃ t, v = .int (l'.foldl f x) t) ∧ Keeps s s') E s)
    (h2 : ∀ {x y : Int} {t u : Tok}, wpAny (model prog w) A (call (.builtin id) [.int x t, .int y u]) (fun v s' => (∃ t, v = .int (f x y) t) ∧ Keeps s s') E s) :
    wpAny (model prog w) A (call (.builtin id) vs) (OpP s μ d) E s := by
  have fin : ∀ {k : Int} {v : Value} {s' : Shared}, ((∃ t, v = .int k t) ∧ Keeps s s') → OpP s μ (.int k) v s' := fun h => by
    obtain ⟨⟨t, rfl⟩, k⟩ := h
    exact ⟨k, .int _ _⟩
  rcases r with _ | ⟨r1, r⟩
  · cases e
  · rcases r with _ | ⟨r2, r⟩
    · obtain ⟨dl, hd, e⟩ := bindS e
      obtain ⟨l, hl, e⟩ := bindS e
      rw [asL_some hd] at r1
      obtain ⟨a, ws, n, rfl, hx, zx, rx⟩ := r1.lst
      cases l with
      | nil => cases e
      | cons x l => cases e; exact wpAny_mono (h1 hx (rx.ints hl)) (fun _ _ h => fin h) fun _ _ y => y
    · rcases r with _ | ⟨r3, r⟩
      · obtain ⟨x, hx, e⟩ := bindS e
        obtain ⟨y, hy, e⟩ := bindS e
        rw [asI_some hx] at r1
        rw [asI_some hy] at r2
        obtain ⟨t, rfl⟩ := r1.int; obtain ⟨u, rfl⟩ := r2.int
        cases e
        exact wpAny_mono h2 (fun _ _ h => fin h) fun _ _ y => y
      · cases e

theorem bi_ok (hh : A.handled = none) {id : String} {ds : List D} {vs : List Value} {d : D} (e : biD id ds = some d) (r : Views s.heap μ vs ds) :
    wpAny (model prog w) A (call (.builtin id) vs) (OpP s μ d) E s := by
  unfold biD at e
  by_cases c1 : id = "len"
  · subst c1
    rw [if_pos rfl] at e
    obtain ⟨v, a, rfl, rfl, r1, e⟩ := one_of r rfl (fun _ _ _ => rfl) e
    have e : (match asL a with | some ds => some (D.int ds.length) | none => (asU a).bind fun ds => some (.int ds.length)) = some d := e
    cases ha : asL a with
    | some dl =>
      rw [ha] at e
      rw [asL_some ha] at r1
      obtain ⟨a, ws, n, rfl, hx, zx, rx⟩ := r1.lst
      cases e
      refine Calls.call_len_list ⟨_, hx, rfl, n, rfl⟩ (by rw [sizeLine_eq] at zx; simp; omega) ⟨keeps_toks, ?_⟩
      rw [List.size_toArray, rx.length]; exact .int _ _
    | none =>
      rw [ha] at e
      obtain ⟨dt, hd, e⟩ := bindS e
      cases e
      rw [asU_some hd] at r1
      obtain ⟨a, ws, n, rfl, hx, zx, rx⟩ := r1.tup
      refine P.len_tuple hx (by rw [sizeLine_eq] at zx; simp; omega) ⟨keeps_toks, ?_⟩
      rw [List.size_toArray, rx.length]; exact .int _ _
  · rw [if_neg c1] at e
    by_cases c2 : id = "sum"
    · subst c2
      rw [if_pos rfl] at e
      obtain ⟨v, a, rfl, rfl, r1, e⟩ := one_of r rfl (fun _ _ _ => rfl) e
      obtain ⟨dl, hd, e⟩ := bindS e
      obtain ⟨l, hl, e⟩ := bindS e
      rw [asL_some hd] at r1
      obtain ⟨a, ws, n, rfl, hx, zx, rx⟩ := r1.lst
      split at e
      · rename_i hs
        cases e
        obtain ⟨h1, h2⟩ := Bool.and_eq_true_iff.mp hs
        refine wpAny_mono (sum_ok hh hx (rx.ints hl) (sumFits_of h1 (of_decide_eq_true h2))) (fun v s' h' => ?_) fun _ _ y => y
        obtain ⟨⟨t, rfl⟩, k⟩ := h'
        exact ⟨k, .int _ _⟩
      · cases e
    · rw [if_neg c2] at e
      by_cases c3 : id = "min"
      · subst c3
        rw [if_pos rfl] at e
        exact fold_ok e r (fun hx hi => min_ok hh hx hi) (min2_ok hh)
      · rw [if_neg c3] at e
        by_cases c4 : id = "max"
        · subst c4
          rw [if_pos rfl] at e
          exact fold_ok e r (fun hx hi => max_ok hh hx hi) (max2_ok hh)
        · rw [if_neg c4] at e; cases e

theorem tyOf_is {v : Value} {d : D} {T : String} (r : View s.heap μ v d) (e : tyOf d = some T) : s.TypeIs v T ∧ (Value.type T == Value.type "builtin_function_or_method") = false := by
  rcases r with r | ⟨a, vs, n, ds', rfl, rfl, h1, h2, h3⟩
  · cases r <;> cases e <;> first | exact ⟨rfl, by decide⟩ | exact ⟨⟨_, by assumption, rfl⟩, by decide⟩
  · cases e; exact ⟨⟨_, h1, rfl⟩, by decide⟩

theorem ty_ok (hμ : ∀ a ∈ μ, ∃ o, s.heap.get? a = some o) {n : String} {ds : List D} {vs : List Value} {d : D} (e : tyD n ds = some d) (r : Views s.heap μ vs ds) :
    wpAny (model prog w) A (call (.type n) vs) (OpP s μ d) E s := by
  unfold tyD at e
  by_cases c1 : n = "list"
  · subst c1
    rw [if_pos rfl] at e
    obtain ⟨v, a, rfl, rfl, r1, e⟩ := one_of r rfl (fun _ _ _ => rfl) e
    have e : (match asL a with | some ds => some (D.lst ds) | none => (asU a).bind fun ds => some (.lst ds)) = some d := e
    cases ha : asL a with
    | some dl =>
      rw [ha] at e
      rw [asL_some ha] at r1
      obtain ⟨a, ws, n, rfl, hx, zx, rx⟩ := r1.lst
      cases e
      exact call_list_seq a (.inl rfl) hx rfl rfl (fun h' c' hk hD => ⟨⟨_, _, rfl, hk⟩, .lst hD (fresh_at hμ) zx (rx.keeps hk)⟩) (by simpa using zx)
    | none =>
      rw [ha] at e
      obtain ⟨dt, hd, e⟩ := bindS e
      cases e
      rw [asU_some hd] at r1
      obtain ⟨a, ws, n, rfl, hx, zx, rx⟩ := r1.tup
      exact call_list_seq a (.inr rfl) hx rfl rfl (fun h' c' hk hD => ⟨⟨_, _, rfl, hk⟩, .lst hD (fresh_at hμ) zx (rx.keeps hk)⟩) (by simpa using zx)
  · rw [if_neg c1] at e
    by_cases c2 : n = "range"
    · subst c2
      rw [if_pos rfl] at e
      obtain ⟨v, a, rfl, rfl, r1, e⟩ := one_of r rfl (fun _ _ _ => rfl) e
      obtain ⟨k, hk, e⟩ := bindS e
      rw [asI_some hk] at r1
      obtain ⟨t, rfl⟩ := r1.int
      split at e
      · rename_i hs
        cases e
        exact call_range_1 ⟨keeps_push, .rng (Heap.get?_push_size _ rfl) (fresh_at hμ) (of_decide_eq_true hs)⟩
      · cases e
    · rw [if_neg c2] at e
      by_cases c3 : n = "type"
      · subst c3
        rw [if_pos rfl] at e
        obtain ⟨v, a, rfl, rfl, r1, e⟩ := one_of r rfl (fun _ _ _ => rfl) e
        obtain ⟨T, hT, e⟩ := bindS e
        cases e
        obtain ⟨h1, h2⟩ := tyOf_is r1 hT
        exact call_type_of h1 h2 ⟨keeps_refl, .ty _⟩
      · rw [if_neg c3] at e; cases e
end

end YV
end

section
set_option autoImplicit false
set_option linter.unusedVariables false
set_option maxRecDepth 10000
namespace YV
open PySem PyProof.Rows

/-- an iterator it, i items on, over the items of the datum -/
inductive Src (h : Heap) (μ : List Addr) (H : Hp) (it : Addr) (i : Nat) (items : List D) : D → Prop where
  | lst {a : Addr} {vs : List Value} {n : Nat} : h.get? a = some (listO vs n) → a ∉ μ → Reps h μ vs items → h.IsListIter it a i → Src h μ H it i items (.lst items)
  | mlst {j : Nat} {a : Addr} : μ[j]? = some a → H[j]? = some (.lst items) → h.IsListIter it a i → Src h μ H it i items (.mref j)
  | tup {a : Addr} {vs : List Value} {n : Nat} : h.get? a = some (tupO vs n) → a ∉ μ → Reps h μ vs items → h.IsTupleIter it a i → Src h μ H it i items (.tup items)
  | rng {n : Nat} : items = (List.range n).map (fun (k : Nat) => D.int k) → IsRangeIter h it i ((n : Int) - i) 1 → Src h μ H it i items (.rng n)
  | str {s : Str} {t : Tok} : items = s.cps.toList.map (fun c => D.str ⟨#[c]⟩) → h.IsStrIter it "str_ascii_iterator" s t i → Src h μ H it i items (.str s)

/-- the iterator is one -/
theorem Src.obj {h : Heap} {μ : List Addr} {H : Hp} {it : Addr} {i : Nat} {items : List D} {d : D} (x : Src h μ H it i items d) : ∃ o, h.get? it = some o ∧ (∃ vs, o.data = .fields vs) ∧ o.cls ≠ .type "range" ∧ Firm o := by
  cases x with
  | lst _ _ _ y => obtain ⟨o, h1, h2, h3⟩ := y; exact ⟨o, h1, ⟨_, h3⟩, by rw [h2]; decide, fun _ _ => .inl h2⟩
  | mlst _ _ y => obtain ⟨o, h1, h2, h3⟩ := y; exact ⟨o, h1, ⟨_, h3⟩, by rw [h2]; decide, fun _ _ => .inl h2⟩
  | tup _ _ _ y => obtain ⟨o, h1, h2, h3⟩ := y; exact ⟨o, h1, ⟨_, h3⟩, by rw [h2]; decide, fun _ _ => .inr (.inl h2)⟩
  | rng _ y => exact ⟨_, y, ⟨_, rfl⟩, (show Value.type "range_iterator" ≠ Value.type "range" by decide), fun _ _ => .inr (.inr (.inl rfl))⟩
  | str _ y => obtain ⟨o, h1, h2, h3⟩ := y; exact ⟨o, h1, ⟨_, h3⟩, by rw [h2]; decide, fun _ _ => .inr (.inr (.inr (.inl h2)))⟩

theorem Src.notMut {G : Gl} {l : List Env} {μ : List Addr} {H : Hp} {s : Shared} (I : Inv G l μ H s) {it : Addr} {i : Nat} {items : List D} {d : D} (x : Src s.heap μ H it i items d) : it ∉ μ := fun q => by
  obtain ⟨o, ho, ⟨vs, hv⟩, _⟩ := x.obj
  obtain ⟨o', ho', hk, _⟩ := I.kind q
  rw [ho] at ho'; cases ho'
  exact hk vs hv

/-- it stays where it is while others work -/
theorem Src.ext {full : Bool} {own : List Addr} {h h' : Heap} {μ μ' : List Addr} {H H' : Hp} {it : Addr} {i : Nat} {items : List D} {d : D} (x : Src h μ H it i items d) (e : Ext full own h μ h' μ') (hi : it ∉ own) (hm : it ∉ μ)
    (ok : OwnOk own h) (chk : chkD H d H') : Src h' μ' H' it i items d := by
  have at' : ∀ o, h.get? it = some o → (∃ vs, o.data = .fields vs) → Firm o → h'.get? it = some o := fun o ho hv hf => e.solid ho hm hi hf (fun es n q => by
    obtain ⟨vs, hv⟩ := hv; rw [hv] at q; cases q)
  cases x with
  | lst h1 h2 h3 y =>
    obtain ⟨o, y1, y2, y3⟩ := y
    refine .lst (e.solid h1 h2 (fun q => (ok _ q _ h1).1 _ _ rfl) (fun _ q => by cases q) (fun _ _ q => by cases q)) (e.notMem h1 h2) (h3.ext e ok) ⟨o, at' o y1 ⟨_, y3⟩ (fun _ _ => .inl y2), y2, y3⟩
  | mlst h1 h2 y =>
    obtain ⟨o, y1, y2, y3⟩ := y
    exact .mlst (e.at h1) (chk.trans h2) ⟨o, at' o y1 ⟨_, y3⟩ (fun _ _ => .inl y2), y2, y3⟩
  | tup h1 h2 h3 y =>
    obtain ⟨o, y1, y2, y3⟩ := y
    refine .tup (e.solid h1 h2 (fun q => (ok _ q _ h1).1 _ _ rfl) (fun _ q => by cases q) (fun _ _ q => by cases q)) (e.notMem h1 h2) (h3.ext e ok) ⟨o, at' o y1 ⟨_, y3⟩ (fun _ _ => .inr (.inl y2)), y2, y3⟩
  | rng h1 y => exact .rng h1 (at' _ y ⟨_, rfl⟩ fun _ _ => .inr (.inr (.inl rfl)))
  | str h1 y =>
    obtain ⟨o, y1, y2, y3⟩ := y
    exact .str h1 ⟨o, at' o y1 ⟨_, y3⟩ (fun _ _ => .inr (.inr (.inr (.inl y2)))), y2, y3⟩

section
variable {G : Gl} {A : Around} {E : Value → Shared → Prop} {s : Shared} {l : List Env} {μ : List Addr} {H : Hp}

theorem Src.start (I : Inv G l μ H s) {v : Value} {d : D} {items : List D} (r : Rep s.heap μ v d) (e : itemsD (view H d) = some items) :
    wpAny (model G.prog G.w) A (pyIter v) (fun it s' => ∃ a o, it = .ref a ∧ a = s.heap.objs.size ∧ s' = { s with heap := s.heap.push o } ∧ Src s'.heap μ H a 0 items d) E s := by
  cases r with
  | none => cases e
  | bool b => cases e
  | int i t => cases e
  | str x t =>
    have e : (if x.cps.all (· < 128) then some (x.cps.toList.map fun c => D.str ⟨#[c]⟩) else none) = some items := e
    by_cases ha : x.cps.all (· < 128) = true
    · rw [if_pos ha] at e
      cases e
      exact wpAny_pyIter_ascii ha ⟨_, _, rfl, rfl, rfl, .str rfl ⟨_, Heap.get?_push_size _ rfl, rfl, rfl⟩⟩
    · rw [if_neg ha] at e; cases e
  | tup h1 h2 hz h3 =>
    cases e
    exact wpAny_pyIter_tuple ⟨_, h1, rfl, _, rfl⟩ ⟨_, _, rfl, rfl, rfl, .tup (Heap.get?_push_of_some _ h1) h2 (h3.keeps fun _ _ e => Heap.get?_push_of_some _ e) ⟨_, Heap.get?_push_size _ rfl, rfl, rfl⟩⟩
  | lst h1 h2 hz h3 =>
    cases e
    exact wpAny_pyIter_list ⟨_, h1, rfl, _, rfl⟩ ⟨_, _, rfl, rfl, rfl, .lst (Heap.get?_push_of_some _ h1) h2 (h3.keeps fun _ _ e => Heap.get?_push_of_some _ e) ⟨_, Heap.get?_push_size _ rfl, rfl, rfl⟩⟩
  | mref h1 =>
    rename_i i a
    have key : ∃ ds, H[i]? = some (.lst ds) ∧ items = ds := by
      have e : itemsD (match H[i]? with | some (.lst ds) => .lst ds | _ => .mref i) = some items := e
      cases hq : H[i]? with
      | none => rw [hq] at e; cases e
      | some o =>
        rw [hq] at e
        cases o with
        | lst ds => cases e; exact ⟨_, rfl, rfl⟩
        | dict fs => cases e
        | dic es => cases e
    obtain ⟨ds, hq, rfl⟩ := key
    obtain ⟨vs, n, e1, z, q⟩ := I.objs i a _ h1 hq
    exact wpAny_pyIter_list ⟨_, e1, rfl, _, rfl⟩ ⟨_, _, rfl, rfl, rfl, .mlst h1 hq ⟨_, Heap.get?_push_size _ rfl, rfl, rfl⟩⟩
  | inst _ _ _ => cases e
  | glob _ => cases e
  | rng h1 h2 hk =>
    rename_i a k t u w
    cases e
    have hs : Builtin.Range.rangeSize 0 k 1 = (k.toNat : Int) := by
      unfold Builtin.Range.rangeSize
      rw [if_pos (by decide)]
      split <;> omega
    have hsm : Builtin.Range.small 0 k 1 = true := by
      unfold Builtin.Range.small
      rw [hs]
      simp only [Builtin.Range.rangeFitsLong, Bool.and_eq_true, Bool.or_eq_true, decide_eq_true_eq, beq_iff_eq]
      refine ⟨⟨⟨⟨?_, ?_⟩, ?_⟩, ?_⟩, .inr ?_⟩ <;> first | omega | (simp only [gt_iff_lt, Int.zero_lt_one, if_true, decide_eq_true_eq]; omega) | skip
      all_goals (first | (constructor <;> omega) | (simp; omega))
    refine wpAny_pyIter_range h1 hsm ⟨_, _, rfl, rfl, rfl, .rng rfl ?_⟩
    rw [hs]
    exact Heap.get?_push_size _ rfl
  | ty _ => cases e
  | bi _ => cases e

theorem Src.next (I : Inv G l μ H s) {it : Addr} {i : Nat} {items : List D} {d e : D} (x : Src s.heap μ H it i items d) (hb : G.base.get? it = none) (hi : items[i]? = some e) :
    wpAny (model G.prog G.w) A (pyNext (.ref it)) (fun r s' => ∃ v h' tk, r = some v ∧ s' = { s with heap := h', toks := tk } ∧ Inv G l μ H s' ∧ Ext true [it] s.heap μ h' μ ∧ Src h' μ H it (i + 1) items d ∧ Rep h' μ v e) E s := by
  have hm := x.notMut I
  obtain ⟨oi, hoi, ⟨vi, hvi⟩, hci, _⟩ := x.obj
  have inv : ∀ h' tk, Heap.SameBut it s.heap h' → Inv G l μ H { s with heap := h', toks := tk } := fun h' tk k => I.extBut k.extBut hm hb fun o ho => by
    rw [hoi] at ho; cases ho; exact ⟨vi, hvi, hci⟩
  have ext : ∀ h', Heap.SameBut it s.heap h' → Ext true [it] s.heap μ h' μ := fun h' k => Ext.of_extBut k.extBut hm
  have ok : OwnOk [it] s.heap := fun a ha o ho => by
    rw [List.mem_singleton.mp ha, hoi] at ho; cases ho
    exact ⟨(fun xs n q => by rw [hvi] at q; cases q), (fun q => by rw [hvi] at q; cases q), fun _ _ => hci⟩
  cases x with
  | lst h1 h2 h3 y =>
    rename_i a vs n
    obtain ⟨v, hv, r⟩ := h3.get hi
    refine wpAny_pyNext_list_item y ⟨_, h1, rfl, _, rfl⟩ (x := v) (by simpa using hv) fun h' y' k => ?_
    have hne : a ≠ it := fun q => by rw [q, hoi] at h1; cases h1; cases hvi
    exact ⟨v, h', s.toks, rfl, rfl, inv h' _ k, ext h' k, .lst ((k.2 _ hne).trans h1) h2 (h3.ext (ext h' k) ok) y', r.ext (ext h' k) ok⟩
  | mlst h1 h2 y =>
    obtain ⟨vs, n, e1, z, q⟩ := I.objs _ _ _ h1 h2
    obtain ⟨v, hv, r⟩ := q.get hi
    refine wpAny_pyNext_list_item y ⟨_, e1, rfl, _, rfl⟩ (x := v) (by simpa using hv) fun h' y' k => ?_
    exact ⟨v, h', s.toks, rfl, rfl, inv h' _ k, ext h' k, .mlst h1 h2 y', r.ext (ext h' k) ok⟩
  | tup h1 h2 h3 y =>
    rename_i a vs n
    obtain ⟨v, hv, r⟩ := h3.get hi
    refine wpAny_pyNext_tuple_item y ⟨_, h1, rfl, _, rfl⟩ (x := v) (by simpa using hv) fun h' y' k => ?_
    have hne : a ≠ it := fun q => by rw [q, hoi] at h1; cases h1; cases hvi
    exact ⟨v, h', s.toks, rfl, rfl, inv h' _ k, ext h' k, .tup ((k.2 _ hne).trans h1) h2 (h3.ext (ext h' k) ok) y', r.ext (ext h' k) ok⟩
  | rng h1 y =>
    rename_i n
    have hin : i < n := by
      have := (List.getElem?_eq_some_iff.mp hi).1
      rw [h1] at this; simpa using this
    have he : e = .int i := by
      rw [h1] at hi
      simp [List.getElem?_map, List.getElem?_range hin] at hi
      exact hi.symm
    subst he
    refine wpAny_pyNext_range_item y (by omega) fun h' y' k => ?_
    refine ⟨_, h', _, rfl, rfl, inv h' _ k, ext h' k, .rng h1 ?_, .int _ _⟩
    have e1 : (i : Int) + 1 = ((i + 1 : Nat) : Int) := by omega
    have e2 : (n : Int) - i - 1 = (n : Int) - ((i + 1 : Nat) : Int) := by omega
    rw [e1, e2] at y'
    exact y'
  | str h1 y =>
    rename_i x t
    have hc : ∃ c, x.cps[i]? = some c ∧ e = .str ⟨#[c]⟩ := by
      rw [h1, List.getElem?_map] at hi
      obtain ⟨c, hc, rfl⟩ := Option.map_eq_some_iff.mp hi
      exact ⟨c, by simpa using hc, rfl⟩
    obtain ⟨c, hc, rfl⟩ := hc
    refine wpAny_pyNext_ascii_item y hc fun h' y' k => ?_
    exact ⟨_, h', _, rfl, rfl, inv h' _ k, ext h' k, .str h1 y', .str _ _⟩

theorem Src.done (hh : A.handled = none) (I : Inv G l μ H s) {it : Addr} {i : Nat} {items : List D} {d : D} (x : Src s.heap μ H it i items d) (hb : G.base.get? it = none) (hi : items[i]? = none) (hl : i ≤ items.length) :
    wpAny (model G.prog G.w) A (pyNext (.ref it)) (fun r s' => r = none ∧ ∃ h', s' = { s with heap := h' } ∧ Inv G l μ H s' ∧ Ext true [it] s.heap μ h' μ) E s := by
  have hm := x.notMut I
  obtain ⟨oi, hoi, ⟨vi, hvi⟩, hci, _⟩ := x.obj
  have inv : ∀ h', Heap.ExtBut it s.heap h' → Inv G l μ H { s with heap := h' } := fun h' k => I.extBut (tk := s.toks) k hm hb fun o ho => by
    rw [hoi] at ho; cases ho; exact ⟨vi, hvi, hci⟩
  have hi' := List.getElem?_eq_none_iff.mp hi
  cases x with
  | lst h1 h2 h3 y =>
    refine wpAny_pyNext_list_end hh y ⟨_, h1, rfl, _, rfl⟩ (by have := h3.length; simp; omega) fun h' k => ⟨rfl, h', rfl, inv h' k, Ext.of_extBut k hm⟩
  | mlst h1 h2 y =>
    obtain ⟨vs, n, e1, z, q⟩ := I.objs _ _ _ h1 h2
    refine wpAny_pyNext_list_end hh y ⟨_, e1, rfl, _, rfl⟩ (by have := q.length; simp; omega) fun h' k => ⟨rfl, h', rfl, inv h' k, Ext.of_extBut k hm⟩
  | tup h1 h2 h3 y =>
    refine wpAny_pyNext_tuple_end hh y ⟨_, h1, rfl, _, rfl⟩ (by have := h3.length; simp; omega) fun h' k => ⟨rfl, h', rfl, inv h' k, Ext.of_extBut k hm⟩
  | rng h1 y =>
    refine wpAny_pyNext_range_end hh y (by rw [h1] at hi'; simp at hi'; omega) fun h' k => ⟨rfl, h', rfl, inv h' k, Ext.of_extBut k hm⟩
  | str h1 y =>
    refine wpAny_pyNext_ascii_end hh y (by rw [h1] at hi'; simp at hi'; simp; omega) fun h' k => ⟨rfl, h', rfl, inv h' k, Ext.of_extBut k hm⟩
end

end YV
end

section
set_option autoImplicit false
set_option linter.unusedVariables false
set_option maxRecDepth 10000
namespace YV
open PySem PySem.Calls PyProof.Rows PySem.W

/-- a class of exceptions that the program raises -/
noncomputable def ExcOk (h : Heap) : Value → Prop
  | .ref C => ∃ nm q N bs hdct sn sub ab col dd k0 k1 k2 k3 k5 mN, h.get? C = some (excClassObj nm q C N bs [.type "Exception", .type "BaseException", .type "object"] hdct sn sub ab col dd k0 k1 k2 k3 k5 "Exception.__new__") ∧ h.Ns N mN ∧ mN "__init__" = none
  | _ => False

/-- what the abstract program says is so -/
structure POk (G : Gl) (k : Nat) (p : Pg) : Prop where
  X : G.K.In G.base
  nolimit : G.base.NoLimit
  names : ∃ mg mb, G.base.Ns mainGlobals mg ∧ G.base.Ns builtinsNs mb ∧ ∀ x d, p.gl x = some d → ∃ v, Rep G.base [] v d ∧ (mg x = some v ∨ (mg x = none ∧ mb x = some v))
  cw : ∀ a ds H Q X, p.cw a ds H Q X → CW G k a ds H Q X
  fn : ∀ a, p.fn a = true → keepIn G.K (.ref a) = true
  meth : ∀ C n f, p.meth C n = some f → plainGet G.K C n = true ∧ findIn G.K (.ref C) n = some (some (.ref f)) ∧ isFn G.K (.ref f) = true ∧ keepIn G.K (.ref f) = true
  fld : ∀ C n, p.fld C n = true → plainGet G.K C n = true ∧ hasDictIn G.K C = true ∧ ∃ attr, findIn G.K (.ref C) n = some attr ∧ noGet G.K attr = true
  sfd : ∀ C n, p.sfd C n = true → findIn G.K (.ref C) "__setattr__" = some (some (.builtin "object.__setattr__")) ∧ plainOver G.K C = true ∧ takerIn G.K C n = some none ∧ hasDictIn G.K C = true
  exc : ∀ c, p.exc c = true → ExcOk G.base c
  sub : ∀ c c' b, p.sub c c' = some b → ∀ (A : Around) (E : Value → Shared → Prop) (s : Shared) (e : Addr) (oe : Obj), (∀ b o, G.base.get? b = some o → s.heap.get? b = some o) → s.heap.get? e = some oe → oe.cls = c →
    wpAny (model G.prog G.w) A (excMatches (.ref e) c') (fun r s' => r = b ∧ s' = s) E s
  raw : ∀ c, p.raw c = G.raw c

section
variable {G : Gl} {l : List Env} {μ : List Addr} {H : Hp} {s : Shared}

theorem Inv.live (I : Inv G l μ H s) : ∀ a ∈ μ, ∃ o, s.heap.get? a = some o := fun a ha => let ⟨o, h, _⟩ := I.kind ha; ⟨o, h⟩

theorem Inv.rep (I : Inv G l μ H s) {v : Value} {d : D} (r : Rep G.base [] v d) : Rep s.heap μ v d := by
  refine r.ext (full := true) (own := []) (μ' := μ) ⟨⟨μ, by simp⟩, fun a ha => .inr (I.fresh a ha), fun a o e _ _ _ => ⟨o.slots, I.stays a o e, fun _ => rfl⟩, fun a o e _ => ⟨o, I.stays a o e⟩, fun _ h => nomatch h⟩ OwnOk.nil

theorem Inv.K (I : Inv G l μ H s) {k : Nat} {p : Pg} (P : POk G k p) : G.K.In s.heap := P.X.keeps I.stays

theorem EvP.ofOp {Q : D → Hp → Prop} {s₂ : Shared} {μ₂ : List Addr} {H₂ : Hp} {d : D} (I : Inv G l μ₂ H₂ s₂) (x : Ext true [] s.heap μ s₂.heap μ₂) (q : Q d H₂) {v : Value} {s' : Shared} (o : OpP s₂ μ₂ d v s') : EvP G l μ s Q v s' := by
  obtain ⟨⟨h', tk, rfl, k⟩, r⟩ := o
  exact ⟨μ₂, H₂, d, I.keeps k, x.trans (Ext.of_keeps0 k), r, q⟩
theorem EvP.here {Q : D → Hp → Prop} {s₂ : Shared} {μ₂ : List Addr} {H₂ : Hp} {d : D} (I : Inv G l μ₂ H₂ s₂) (x : Ext true [] s.heap μ s₂.heap μ₂) (q : Q d H₂) {v : Value} (r : Rep s₂.heap μ₂ v d) : EvP G l μ s Q v s₂ :=
  ⟨μ₂, H₂, d, I, x, r, q⟩
theorem Fly.back {μ₁ : List Addr} {h₀ h₁ h : Heap} {e c : Value} (f : Fly G h₁ h e c) (x : Ext true [] h₀ μ h₁ μ₁) : Fly G h₀ h e c := by
  obtain ⟨ea, T, rfl, h1, h2, h3⟩ := f
  have dn : ∀ a, h₁.get? a = none → h₀.get? a = none := fun a q => by
    cases e : h₀.get? a with
    | none => rfl
    | some o => obtain ⟨o', e'⟩ := x.dom a o e (by simp); rw [q] at e'; cases e'
  exact ⟨ea, T, rfl, h1, dn _ h2, dn _ h3⟩
theorem EvX.back {X : Value → Hp → Prop} {s₁ : Shared} {μ₁ : List Addr} (x : Ext true [] s.heap μ s₁.heap μ₁) {e : Value} {s' : Shared} (h : EvX G l μ₁ s₁ X e s') : EvX G l μ s X e s' := by
  obtain ⟨μ', H', c, I, y, f, q⟩ := h
  exact ⟨μ', H', c, I, x.trans y, f.back x, q⟩
theorem EvP.back {Q : D → Hp → Prop} {s₁ : Shared} {μ₁ : List Addr} (x : Ext true [] s.heap μ s₁.heap μ₁) {v : Value} {s' : Shared} (h : EvP G l μ₁ s₁ Q v s') : EvP G l μ s Q v s' := by
  obtain ⟨μ', H', d, I, y, r, q⟩ := h
  exact ⟨μ', H', d, I, x.trans y, r, q⟩
theorem Ext.refl0 {full : Bool} {h : Heap} {μ : List Addr} : Ext full [] h μ h μ := Ext.refl fun _ h => nomatch h
end

noncomputable def SE (G : Gl) (l : List Env) (k : Nat) (p : Pg) (e : Expr) : Prop := ∀ {A : Around} {env : Env} {loc : Loc} {H : Hp} {Q : D → Hp → Prop} {X : Value → Hp → Prop} {s : Shared} {μ : List Addr},
  AOk A l k → Inv G l μ H s → Fok G env loc μ s.heap → awE p (kcOf env.scope.names) e loc H Q X → wpAny (model G.prog G.w) A (eval e env) (EvP G l μ s Q) (EvX G l μ s X) s
inductive EvPs (G : Gl) (l : List Env) (μ : List Addr) (s : Shared) (n : Nat) (Q : List D → Hp → Prop) (vs : List Value) (s' : Shared) : Prop
  | mk (μ' : List Addr) (H' : Hp) (ds : List D) : Inv G l μ' H' s' → Ext true [] s.heap μ s'.heap μ' → Reps s'.heap μ' vs ds → vs.length = n → Q ds H' → EvPs G l μ s n Q vs s'
noncomputable def SEs (G : Gl) (l : List Env) (k : Nat) (p : Pg) (es : List Expr) : Prop := ∀ {A : Around} {env : Env} {loc : Loc} {H : Hp} {Q : List D → Hp → Prop} {X : Value → Hp → Prop} {s : Shared} {μ : List Addr} (pos : Pos),
  AOk A l k → Inv G l μ H s → Fok G env loc μ s.heap → awEs p (kcOf env.scope.names) es loc H Q X → wpAny (model G.prog G.w) A (spliced (backTo pos (starEach es env))) (EvPs G l μ s es.length Q) (EvX G l μ s X) s
inductive EvB (G : Gl) (l : List Env) (μ : List Addr) (s : Shared) (Q : Bool → Hp → Prop) (b : Bool) (s' : Shared) : Prop
  | mk (μ' : List Addr) (H' : Hp) : Inv G l μ' H' s' → Ext true [] s.heap μ s'.heap μ' → Q b H' → EvB G l μ s Q b s'
noncomputable def ST (G : Gl) (l : List Env) (k : Nat) (p : Pg) (e : Expr) : Prop := ∀ {A : Around} {env : Env} {loc : Loc} {H : Hp} {Q : Bool → Hp → Prop} {X : Value → Hp → Prop} {s : Shared} {μ : List Addr},
  AOk A l k → Inv G l μ H s → Fok G env loc μ s.heap → awT p (kcOf env.scope.names) e (fun K => awE p (kcOf env.scope.names) e loc H K X) loc H Q X → wpAny (model G.prog G.w) A (isTrue e env (eval e env)) (EvB G l μ s Q) (EvX G l μ s X) s
noncomputable def SB (G : Gl) (l : List Env) (k : Nat) (p : Pg) (es : List Expr) : Prop := ∀ (op : BoolOp) {A : Around} {env : Env} {loc : Loc} {H : Hp} {Q : Bool → Hp → Prop} {X : Value → Hp → Prop} {s : Shared} {μ : List Addr},
  AOk A l k → Inv G l μ H s → Fok G env loc μ s.heap → awB p (kcOf env.scope.names) op es loc H Q X → wpAny (model G.prog G.w) A (allTrue op es env) (EvB G l μ s Q) (EvX G l μ s X) s
inductive EvO (G : Gl) (l : List Env) (μ : List Addr) (s : Shared) (Q : Option D → Hp → Prop) (v : Value) (s' : Shared) : Prop
  | mk (μ' : List Addr) (H' : Hp) (d : Option D) : Inv G l μ' H' s' → Ext true [] s.heap μ s'.heap μ' → RepO s'.heap μ' v d → Q d H' → EvO G l μ s Q v s'
noncomputable def SO (G : Gl) (l : List Env) (k : Nat) (p : Pg) (e : Option Expr) : Prop := ∀ {A : Around} {env : Env} {loc : Loc} {H : Hp} {Q : Option D → Hp → Prop} {X : Value → Hp → Prop} {s : Shared} {μ : List Addr},
  AOk A l k → Inv G l μ H s → Fok G env loc μ s.heap → awO p (kcOf env.scope.names) e loc H Q X → wpAny (model G.prog G.w) A (evalPart e env) (EvO G l μ s Q) (EvX G l μ s X) s

section
variable {G : Gl} {l : List Env} {k : Nat} {p : Pg}

theorem Inv.fok {μ μ' : List Addr} {H : Hp} {s s' : Shared} {env : Env} {loc : Loc} (I : Inv G l μ H s) (F : Fok G env loc μ s.heap) (x : Ext true [] s.heap μ s'.heap μ') : Fok G env loc μ' s'.heap := F.ext x I.cell

theorem SE.go {e : Expr} (he : SE G l k p e) {A : Around} {env : Env} {loc : Loc} {H : Hp} {Q : D → Hp → Prop} {X : Value → Hp → Prop} {s s₀ : Shared} {μ μ₀ : List Addr} (hA : AOk A l k) (x : Ext true [] s₀.heap μ₀ s.heap μ) (I : Inv G l μ H s) (F : Fok G env loc μ s.heap)
    (h : awE p (kcOf env.scope.names) e loc H Q X) {R : Value → Shared → Prop} (r : ∀ v s₁ μ₁ H₁ d, Inv G l μ₁ H₁ s₁ → Ext true [] s.heap μ s₁.heap μ₁ → Ext true [] s₀.heap μ₀ s₁.heap μ₁ → Fok G env loc μ₁ s₁.heap → Rep s₁.heap μ₁ v d → Q d H₁ → R v s₁) :
    wpAny (model G.prog G.w) A (eval e env) R (EvX G l μ₀ s₀ X) s :=
  wpAny_mono (he hA I F h) (fun v s₁ h₁ => h₁.rec fun μ₁ H₁ d I₁ x₁ r₁ q₁ => r v s₁ μ₁ H₁ d I₁ x₁ (x.trans x₁) (I.fok F x₁) r₁ q₁) fun _ _ y => EvX.back x y
theorem ST.go {e : Expr} (he : ST G l k p e) {A : Around} {env : Env} {loc : Loc} {H : Hp} {Q : Bool → Hp → Prop} {X : Value → Hp → Prop} {s s₀ : Shared} {μ μ₀ : List Addr} (hA : AOk A l k) (x : Ext true [] s₀.heap μ₀ s.heap μ) (I : Inv G l μ H s) (F : Fok G env loc μ s.heap)
    (h : awT p (kcOf env.scope.names) e (fun K => awE p (kcOf env.scope.names) e loc H K X) loc H Q X) {R : Bool → Shared → Prop} (r : ∀ b s₁ μ₁ H₁, Inv G l μ₁ H₁ s₁ → Ext true [] s₀.heap μ₀ s₁.heap μ₁ → Fok G env loc μ₁ s₁.heap → Q b H₁ → R b s₁) :
    wpAny (model G.prog G.w) A (isTrue e env (eval e env)) R (EvX G l μ₀ s₀ X) s :=
  wpAny_mono (he hA I F h) (fun v s₁ h₁ => h₁.rec fun μ₁ H₁ I₁ x₁ q₁ => r v s₁ μ₁ H₁ I₁ (x.trans x₁) (I.fok F x₁) q₁) fun _ _ y => EvX.back x y
theorem SO.go {e : Option Expr} (he : SO G l k p e) {A : Around} {env : Env} {loc : Loc} {H : Hp} {Q : Option D → Hp → Prop} {X : Value → Hp → Prop} {s s₀ : Shared} {μ μ₀ : List Addr} (hA : AOk A l k) (x : Ext true [] s₀.heap μ₀ s.heap μ) (I : Inv G l μ H s) (F : Fok G env loc μ s.heap)
    (h : awO p (kcOf env.scope.names) e loc H Q X) {R : Value → Shared → Prop} (r : ∀ v s₁ μ₁ H₁ d, Inv G l μ₁ H₁ s₁ → Ext true [] s.heap μ s₁.heap μ₁ → Ext true [] s₀.heap μ₀ s₁.heap μ₁ → Fok G env loc μ₁ s₁.heap → RepO s₁.heap μ₁ v d → Q d H₁ → R v s₁) :
    wpAny (model G.prog G.w) A (evalPart e env) R (EvX G l μ₀ s₀ X) s :=
  wpAny_mono (he hA I F h) (fun v s₁ h₁ => h₁.rec fun μ₁ H₁ d I₁ x₁ r₁ q₁ => r v s₁ μ₁ H₁ d I₁ x₁ (x.trans x₁) (I.fok F x₁) r₁ q₁) fun _ _ y => EvX.back x y
theorem SEs.go {es : List Expr} (he : SEs G l k p es) {A : Around} {env : Env} {loc : Loc} {H : Hp} {Q : List D → Hp → Prop} {X : Value → Hp → Prop} {s s₀ : Shared} {μ μ₀ : List Addr} {pos : Pos} (hA : AOk A l k) (x : Ext true [] s₀.heap μ₀ s.heap μ) (I : Inv G l μ H s) (F : Fok G env loc μ s.heap)
    (h : awEs p (kcOf env.scope.names) es loc H Q X) {R : List Value → Shared → Prop} (r : ∀ vs s₁ μ₁ H₁ ds, Inv G l μ₁ H₁ s₁ → Ext true [] s.heap μ s₁.heap μ₁ → Ext true [] s₀.heap μ₀ s₁.heap μ₁ → Reps s₁.heap μ₁ vs ds → vs.length = es.length → Q ds H₁ → R vs s₁) :
    wpAny (model G.prog G.w) A (spliced (backTo pos (starEach es env))) R (EvX G l μ₀ s₀ X) s :=
  wpAny_mono (he pos hA I F h) (fun v s₁ h₁ => h₁.rec fun μ₁ H₁ d I₁ x₁ r₁ ln q₁ => r v s₁ μ₁ H₁ d I₁ x₁ (x.trans x₁) r₁ ln q₁) fun _ _ y => EvX.back x y

theorem name_ok (P : POk G k p) {A : Around} {env : Env} {loc : Loc} {H : Hp} {s : Shared} {μ : List Addr} {E : Value → Shared → Prop} {x : Str} {pos : Pos} {d : D} (I : Inv G l μ H s) (F : Fok G env loc μ s.heap)
    (e : nmD p (kcOf env.scope.names) loc x = some d) : wpAny (model G.prog G.w) A (eval (.Name x pos) env) (fun v s' => s' = s ∧ Rep s.heap μ v d) E s := by
  have hd : ∀ kd, env.kindOf x = some kd → (x == ("__debug__" : Str)) = false := fun kd q => by
    cases hb : x == ("__debug__" : Str) with
    | false => rfl
    | true => rw [beq_iff_eq.mp hb, F.dbg] at q; cases q
  unfold nmD kcOf at e
  cases hk : env.scope.names.lookup x with
  | none => rw [hk] at e; cases e
  | some kd =>
    have hk' : env.kindOf x = some kd := hk
    rw [hk] at e
    cases kd with
    | «local» =>
      obtain ⟨m, hn, hm⟩ := F.ns
      obtain ⟨v, hv, r⟩ := hm x d e hk'
      exact wpAny_Name (wpAny_loadName_local F.kind hk' hn hv ⟨rfl, r⟩) (hd _ hk')
    | cell =>
      obtain ⟨c, v, hc, hv, r⟩ := F.cell x d e (.inl hk')
      exact wpAny_Name (wpAny_loadName_cell F.kind hk' hc hv ⟨rfl, r⟩) (hd _ hk')
    | free =>
      obtain ⟨c, v, hc, hv, r⟩ := F.cell x d e (.inr hk')
      cases hn : x == ("__classdict__" : Str) with
      | false => exact wpAny_Name (wpAny_loadName_free F.kind hk' hc hv ⟨rfl, r⟩ hn) (hd _ hk')
      | true => rw [beq_iff_eq.mp hn, F.cld] at hk'; cases hk'
    | globalExplicit => cases e
    | globalImplicit =>
      obtain ⟨mg, mb, hg, hb, hx⟩ := P.names
      obtain ⟨v, r, q⟩ := hx x d e
      rcases q with q | ⟨q1, q2⟩
      · exact Name_function_global F.kind hk' (loadGlobal_global (env := env) (by rw [F.glob]; exact hg.keeps I.stays) q ⟨rfl, I.rep r⟩) (hd _ hk')
      · exact Name_function_global F.kind hk' (loadGlobal_builtin (env := env) (by rw [F.glob]; exact hg.keeps I.stays) q1 (by rw [F.blt]; exact hb.keeps I.stays) q2 ⟨rfl, I.rep r⟩) (hd _ hk')
end

end YV
end

section
set_option autoImplicit false
set_option linter.unusedVariables false
set_option maxRecDepth 10000
namespace YV
open PySem PySem.Calls PyProof.Rows PySem.W

section
variable {G : Gl} {l : List Env} {k : Nat} {p : Pg}

theorem se_Constant {c : Const} {n : Nat} {pos : Pos} : SE G l k p (.Constant c n pos) := by
  intro A env loc H Q X s μ hA I F h
  cases c with
  | none => exact wpAny_Constant_none ⟨μ, H, _, I, Ext.refl0, .none, h⟩
  | bool b => exact wpAny_Constant_bool ⟨μ, H, _, I, Ext.refl0, .bool b, h⟩
  | int i => exact wpAny_Constant_int ⟨μ, H, _, I.toks _, Ext.refl0, .int _ _, h⟩
  | str x => exact wpAny_Constant_str ⟨μ, H, _, I.toks _, Ext.refl0, .str _ _, h⟩
  | _ => exact False.elim h

theorem se_Name (P : POk G k p) {x : Str} {pos : Pos} : SE G l k p (.Name x pos) := by
  intro A env loc H Q X s μ hA I F h
  obtain ⟨d, e, q⟩ := h
  refine wpAny_mono (name_ok P I F e) (fun v s' h' => ?_) fun _ _ y => y
  obtain ⟨rfl, r⟩ := h'
  exact ⟨μ, H, d, I, Ext.refl0, r, q⟩

theorem se_BinOp {a b : Expr} {op : Operator} {pos : Pos} (ha : SE G l k p a) (hb : SE G l k p b) : SE G l k p (.BinOp a op b pos) := by
  intro A env loc H Q X s μ hA I F h
  refine wpAny_BinOp (ha.go hA Ext.refl0 I F h fun va s₁ μ₁ H₁ da I₁ x₁ _ F₁ r₁ q₁ => hb.go hA x₁ I₁ F₁ q₁ fun vb s₂ μ₂ H₂ db I₂ x₂ y₂ _ r₂ q₂ => ?_)
  obtain ⟨d, e, q⟩ := q₂
  exact wpAny_mono (bin_ok I₂.live e (I₂.view (r₁.ext x₂ OwnOk.nil)) (I₂.view r₂)) (fun v s' o => EvP.ofOp I₂ y₂ q o) (fun _ _ y => y)

theorem se_USub {a : Expr} {pos : Pos} (ha : SE G l k p a) : SE G l k p (.UnaryOp .USub a pos) := by
  intro A env loc H Q X s μ hA I F h
  refine wpAny_UnaryOp (ha.go hA Ext.refl0 I F h fun va s₁ μ₁ H₁ da I₁ x₁ _ F₁ r₁ q₁ => ?_)
  obtain ⟨i, rfl, q₁⟩ := of_int q₁
  obtain ⟨t, rfl⟩ := r₁.inv
  exact PyProof.Rows.neg_int ⟨μ₁, H₁, _, I₁.toks _, x₁, .int _ _, q₁⟩

theorem SE.back {e : Expr} (he : SE G l k p e) {A : Around} {env : Env} {loc : Loc} {H : Hp} {Q : D → Hp → Prop} {X : Value → Hp → Prop} {s s₀ : Shared} {μ μ₀ : List Addr} (hA : AOk A l k) (x : Ext true [] s₀.heap μ₀ s.heap μ) (I : Inv G l μ H s) (F : Fok G env loc μ s.heap)
    (h : awE p (kcOf env.scope.names) e loc H Q X) : wpAny (model G.prog G.w) A (eval e env) (EvP G l μ₀ s₀ Q) (EvX G l μ₀ s₀ X) s :=
  wpAny_mono (he hA I F h) (fun _ _ y => EvP.back x y) fun _ _ y => EvX.back x y

theorem se_IfExp {t a b : Expr} {pos : Pos} (ht : ST G l k p t) (ha : SE G l k p a) (hb : SE G l k p b) : SE G l k p (.IfExp t a b pos) := by
  intro A env loc H Q X s μ hA I F h
  refine wpAny_IfExp (ht.go hA Ext.refl0 I F h fun c s₁ μ₁ H₁ I₁ x₁ F₁ q₁ => ?_)
  cases c with
  | true => exact ha.back hA x₁ I₁ F₁ q₁
  | false => exact hb.back hA x₁ I₁ F₁ q₁

theorem se_BoolOp {a b : Expr} {op : BoolOp} {pos : Pos} (ha : SE G l k p a) (hb : SE G l k p b) : SE G l k p (.BoolOp op [a, b] pos) := by
  intro A env loc H Q X s μ hA I F h
  cases op with
  | And =>
    refine wpAny_And2 (ha.go hA Ext.refl0 I F h fun va s₁ μ₁ H₁ da I₁ x₁ _ F₁ r₁ q₁ => ?_)
    obtain ⟨c, rfl, q₁⟩ := of_bool q₁
    obtain rfl := r₁.inv
    refine wpAny_truthy_bool ?_
    cases c with
    | true => exact hb.back hA x₁ I₁ F₁ q₁
    | false => exact ⟨μ₁, H₁, _, I₁, x₁, .bool _, q₁⟩
  | Or =>
    refine wpAny_Or2 (ha.go hA Ext.refl0 I F h fun va s₁ μ₁ H₁ da I₁ x₁ _ F₁ r₁ q₁ => ?_)
    obtain ⟨c, rfl, q₁⟩ := of_bool q₁
    obtain rfl := r₁.inv
    refine wpAny_truthy_bool ?_
    cases c with
    | false => exact hb.back hA x₁ I₁ F₁ q₁
    | true => exact ⟨μ₁, H₁, _, I₁, x₁, .bool _, q₁⟩

theorem AOk.room {A : Around} (hA : AOk A l k) : A.units + 64 < cLine := by
  have := hA.units
  show A.units + 64 < 9900
  omega

theorem marks_plain {op : CmpOp} {e : Expr} (h : plainE e = true) : behindInMarks op e = false := by
  cases e <;> first | rfl | cases h

theorem se_Compare1 {a b : Expr} {op : CmpOp} {pos : Pos} (ha : SE G l k p a) (hb : SE G l k p b) : SE G l k p (.Compare a [op] [b] pos) := by
  intro A env loc H Q X s μ hA I F h
  refine wpAny_Compare1 (ha.go hA Ext.refl0 I F h.2 fun va s₁ μ₁ H₁ da I₁ x₁ _ F₁ r₁ q₁ => hb.go hA x₁ I₁ F₁ q₁ fun vb s₂ μ₂ H₂ db I₂ x₂ y₂ _ r₂ q₂ => ?_) (marks_plain h.1)
  obtain ⟨c, e, q⟩ := q₂
  refine wpAny_mono (cmp_ok hA.room e (I₂.view (r₁.ext x₂ OwnOk.nil)) (I₂.view r₂)) (fun v s' o => ?_) (fun _ _ y => y)
  obtain ⟨rfl, rfl⟩ := o
  exact ⟨μ₂, H₂, _, I₂, y₂, .bool _, q⟩

theorem st_Compare1 {a b : Expr} {op : CmpOp} {pos : Pos} (ha : SE G l k p a) (hb : SE G l k p b) : ST G l k p (.Compare a [op] [b] pos) := by
  intro A env loc H Q X s μ hA I F h
  refine wpAny_isTrue_Compare1 (ha.go hA Ext.refl0 I F h.2 fun va s₁ μ₁ H₁ da I₁ x₁ _ F₁ r₁ q₁ => hb.go hA x₁ I₁ F₁ q₁ fun vb s₂ μ₂ H₂ db I₂ x₂ y₂ _ r₂ q₂ => ?_) (marks_plain h.1)
  obtain ⟨c, e, q⟩ := q₂
  refine wpAny_mono (cmp_ok hA.room e (I₂.view (r₁.ext x₂ OwnOk.nil)) (I₂.view r₂)) (fun v s' o => ?_) (fun _ _ y => y)
  obtain ⟨rfl, rfl⟩ := o
  exact wpAny_truthy_bool ⟨μ₂, H₂, I₂, y₂, q⟩

theorem marked_two {op₁ op₂ : CmpOp} {b c : Expr} {env : Env} (hp : plainE c = true) : markedEach [op₁, op₂] [b, c] (evalEach [b, c] env) = [eval b env, eval c env] := by
  show eval b env :: [markedBehindIn op₂ c (eval c env)] = _
  rw [markedBehindIn_of_false (marks_plain hp)]

theorem se_Compare2 {a b c : Expr} {op₁ op₂ : CmpOp} {pos : Pos} (ha : SE G l k p a) (hb : SE G l k p b) (hc : SE G l k p c) : SE G l k p (.Compare a [op₁, op₂] [b, c] pos) := by
  intro A env loc H Q X s μ hA I F h
  rw [arm_eval_Compare, marked_two h.1]
  refine wpAny_bind (ha.go hA Ext.refl0 I F h.2 fun va s₁ μ₁ H₁ da I₁ x₁ _ F₁ r₁ q₁ => ?_)
  unfold compareChain
  refine wpAny_bind (wpAny_holding (hb.go hA x₁ I₁ F₁ q₁ fun vb s₂ μ₂ H₂ db I₂ x₂ y₂ F₂ r₂ q₂ => ?_))
  obtain ⟨c₁, e₁, q₂⟩ := q₂
  refine wpAny_bind (wpAny_standAt (wpAny_bind (wpAny_holding (wpAny_mono (cmp_ok hA.room e₁ (I₂.view (r₁.ext x₂ OwnOk.nil)) (I₂.view r₂)) (fun v s' o => ?_) (fun _ _ y => y)))))
  obtain ⟨rfl, rfl⟩ := o
  refine wpAny_bind (wpAny_release' (wpAny_bind (wpAny_holding (wpAny_truthy_bool ?_))))
  cases c₁ with
  | false => exact wpAny_pure ⟨μ₂, H₂, _, I₂, y₂, .bool _, q₂⟩
  | true =>
    refine wpAny_bind (wpAny_holding (hc.go hA y₂ I₂ F₂ q₂ fun vc s₃ μ₃ H₃ dc I₃ x₃ y₃ _ r₃ q₃ => ?_))
    obtain ⟨c₂, e₂, q₃⟩ := q₃
    refine wpAny_bind (wpAny_standAt (wpAny_operate' (wpAny_mono (cmp_ok hA.room e₂ (I₃.view (r₂.ext x₃ OwnOk.nil)) (I₃.view r₃)) (fun v s' o => ?_) (fun _ _ y => y))))
    obtain ⟨rfl, rfl⟩ := o
    exact ⟨μ₃, H₃, _, I₃, y₃, .bool _, q₃⟩

theorem st_Compare2 {a b c : Expr} {op₁ op₂ : CmpOp} {pos : Pos} (ha : SE G l k p a) (hb : SE G l k p b) (hc : SE G l k p c) : ST G l k p (.Compare a [op₁, op₂] [b, c] pos) := by
  intro A env loc H Q X s μ hA I F h
  rw [arm_isTrue_Compare, marked_two h.1]
  refine wpAny_bind (ha.go hA Ext.refl0 I F h.2 fun va s₁ μ₁ H₁ da I₁ x₁ _ F₁ r₁ q₁ => ?_)
  unfold testChain
  refine wpAny_bind (wpAny_holding (hb.go hA x₁ I₁ F₁ q₁ fun vb s₂ μ₂ H₂ db I₂ x₂ y₂ F₂ r₂ q₂ => ?_))
  obtain ⟨c₁, e₁, q₂⟩ := q₂
  refine wpAny_bind (wpAny_standAt (wpAny_bind (wpAny_holding (wpAny_mono (cmp_ok hA.room e₁ (I₂.view (r₁.ext x₂ OwnOk.nil)) (I₂.view r₂)) (fun v s' o => ?_) (fun _ _ y => y)))))
  obtain ⟨rfl, rfl⟩ := o
  refine wpAny_bind (wpAny_release' (wpAny_bind (wpAny_holding (wpAny_truthy_bool ?_))))
  cases c₁ with
  | false => exact wpAny_pure ⟨μ₂, H₂, I₂, y₂, q₂⟩
  | true =>
    refine wpAny_bind (wpAny_holding (hc.go hA y₂ I₂ F₂ q₂ fun vc s₃ μ₃ H₃ dc I₃ x₃ y₃ _ r₃ q₃ => ?_))
    obtain ⟨c₂, e₂, q₃⟩ := q₃
    refine wpAny_bind (wpAny_standAt (wpAny_bind (wpAny_operate' (wpAny_mono (cmp_ok hA.room e₂ (I₃.view (r₂.ext x₃ OwnOk.nil)) (I₃.view r₃)) (fun v s' o => ?_) (fun _ _ y => y)))))
    obtain ⟨rfl, rfl⟩ := o
    exact wpAny_holding (wpAny_truthy_bool ⟨μ₃, H₃, I₃, y₃, q₃⟩)

/-- lists of expressions -/
theorem ses_nil : SEs G l k p [] := by
  intro A env loc H Q X s μ pos hA I F h
  exact spliced_nil ⟨μ, H, [], I, Ext.refl0, .nil, rfl, h⟩
theorem star_plain {e : Expr} {rest : List Expr} {env : Env} (h : plainE e = true) : starEach (e :: rest) env = (false, eval e env) :: starEach rest env := by
  cases e <;> first | rfl | cases h
theorem ses_cons {e : Expr} {es : List Expr} (he : SE G l k p e) (hes : SEs G l k p es) : SEs G l k p (e :: es) := by
  intro A env loc H Q X s μ pos hA I F h
  rw [star_plain h.1]
  exact spliced_cons (he.go hA Ext.refl0 I F h.2 fun v s₁ μ₁ H₁ d I₁ x₁ _ F₁ r₁ q₁ => hes.go hA x₁ I₁ F₁ q₁ fun vs s₂ μ₂ H₂ ds I₂ x₂ y₂ r₂ ln q₂ => ⟨μ₂, H₂, d :: ds, I₂, y₂, .cons (r₁.ext x₂ OwnOk.nil) r₂, congrArg (· + 1) ln, q₂⟩)

theorem few {n : Nat} (h : decide (n ≤ 1000) = true) : n ≤ sizeLine := Nat.le_trans (of_decide_eq_true h) (by rw [sizeLine_eq]; decide)
theorem se_Tuple {es : List Expr} {n : Nat} {pos : Pos} (hes : SEs G l k p es) : SE G l k p (.Tuple es n pos) := by
  intro A env loc H Q X s μ hA I F h
  exact wpAny_Tuple (hes.go hA Ext.refl0 I F h.2 fun vs s₁ μ₁ H₁ ds I₁ x₁ _ r₁ ln q₁ => ⟨ln ▸ few h.1, EvP.ofOp I₁ x₁ q₁ ⟨keeps_push, rep_newTup I₁.live r₁ (ln ▸ few h.1)⟩⟩)

/-- a new mutable list -/
theorem Inv.newObj {μ : List Addr} {H : Hp} {s : Shared} (I : Inv G l μ H s) {o' : AObj} {h' : Heap} {a : Addr} (hk : ∀ b o, s.heap.get? b = some o → h'.get? b = some o)
    (hn : s.heap.get? a = none) (ho : (∀ v d, Rep s.heap μ v d → Rep h' (μ ++ [a]) v d) → ObjOk h' (μ ++ [a]) a o') {tk : Nat} :
    Inv G l (μ ++ [a]) (H ++ [o']) { s with heap := h', toks := tk } ∧ Ext true [] s.heap μ h' (μ ++ [a]) := by
  have hm : a ∉ μ := fun q => by obtain ⟨o, e⟩ := I.live a q; rw [hn] at e; cases e
  have hx : Ext true [] s.heap μ h' (μ ++ [a]) := ⟨⟨[a], rfl⟩, fun b hb => (List.mem_append.mp hb).imp id fun q => by rw [List.mem_singleton.mp q]; exact hn, fun b o e _ _ _ => ⟨o.slots, hk b o e, fun _ => rfl⟩, fun b o e _ => ⟨o, hk b o e⟩, fun _ h => nomatch h⟩
  have hr : ∀ v d, Rep s.heap μ v d → Rep h' (μ ++ [a]) v d := fun _ _ r => r.ext hx OwnOk.nil
  have J := I.keeps (tk := tk) hk
  refine ⟨⟨J.stays, I.gens, I.os, J.frames, fun b hb => ?_, ?_, fun env he L hL hb => ?_, J.fd, ?_, fun i b o e1 e2 => ?_⟩, hx⟩
  · rcases List.mem_append.mp hb with q | q
    · exact I.fresh b q
    · rw [List.mem_singleton.mp q]
      exact none_back I.stays hn
  · exact List.nodup_append.mpr ⟨I.nodup, List.nodup_cons.mpr ⟨List.not_mem_nil, List.nodup_nil⟩, fun b hb c hc q => hm (by rw [← List.mem_singleton.mp hc, ← q]; exact hb)⟩
  · rcases List.mem_append.mp hb with q | q
    · exact I.apart env he L hL q
    · obtain ⟨o, ho, _⟩ := (I.frames.mem (List.mem_filterMap.mpr ⟨env, he, hL⟩)).2
      rw [List.mem_singleton.mp q, hn] at ho; cases ho
  · rw [List.length_append, List.length_append, I.len]; rfl
  · have len := I.len
    rcases Nat.lt_trichotomy i μ.length with hi | hi | hi
    · rw [List.getElem?_append_left hi] at e1
      rw [List.getElem?_append_left (len ▸ hi)] at e2
      exact (I.objs i b o e1 e2).mono (fun ob q => hk b ob q) hr
    · subst hi
      rw [List.getElem?_concat_length] at e1
      rw [len, List.getElem?_concat_length] at e2
      cases e1; cases e2
      exact ho hr
    · rw [List.getElem?_eq_none (by rw [List.length_append]; exact hi)] at e1; cases e1
theorem Inv.newList {μ : List Addr} {H : Hp} {s : Shared} (I : Inv G l μ H s) {vs : List Value} {ds : List D} {n : Nat} (r : Reps s.heap μ vs ds) (hz : vs.length ≤ sizeLine) {h' : Heap} {a : Addr} (hk : ∀ b o, s.heap.get? b = some o → h'.get? b = some o)
    (hn : s.heap.get? a = none) (ha : h'.get? a = some (listO vs n)) {tk : Nat} :
    Inv G l (μ ++ [a]) (H ++ [.lst ds]) { s with heap := h', toks := tk } ∧ Ext true [] s.heap μ h' (μ ++ [a]) := I.newObj (o' := .lst ds) hk hn fun hr => ⟨vs, n, ha, hz, r.mono hr⟩
theorem Inv.newAt {μ : List Addr} {H : Hp} {s : Shared} (I : Inv G l μ H s) {h : Heap} {a : Addr} : Rep h (μ ++ [a]) (.ref a) (.mref H.length) := .mref (by rw [← I.len]; exact List.getElem?_concat_length)
theorem push_fresh {h : Heap} : h.get? h.objs.size = none := by
  cases e : h.get? h.objs.size with
  | none => rfl
  | some o => exact absurd (Heap.lt_size e) (Nat.lt_irrefl _)

theorem se_List {es : List Expr} {pos : Pos} (hes : SEs G l k p es) : SE G l k p (.List es pos) := by
  intro A env loc H Q X s μ hA I F h
  refine wpAny_List (hes.go hA Ext.refl0 I F h.2 fun vs s₁ μ₁ H₁ ds I₁ x₁ _ r₁ ln q₁ => ?_)
  have hz : vs.length ≤ sizeLine := ln ▸ few h.1
  refine ⟨hz, ?_⟩
  by_cases hm : p.mu pos = true
  · rw [if_pos hm] at q₁
    obtain ⟨I₂, x₂⟩ := I₁.newList (n := 0) r₁ hz (h' := s₁.heap.push (listO vs 0)) (fun _ _ e => Heap.get?_push_of_some _ e) push_fresh (Heap.get?_push_size _ rfl) (tk := s₁.toks)
    exact ⟨_, _, _, I₂, x₁.trans x₂, I₁.newAt, q₁⟩
  · rw [if_neg hm] at q₁
    exact EvP.ofOp I₁ x₁ q₁ ⟨keeps_push, rep_newList I₁.live r₁ hz⟩

theorem so_none : SO G l k p none := by
  intro A env loc H Q X s μ hA I F h
  exact wpAny_evalPart_none ⟨μ, H, none, I, Ext.refl0, rfl, h⟩
theorem so_some {e : Expr} (he : SE G l k p e) : SO G l k p (some e) := by
  intro A env loc H Q X s μ hA I F h
  exact wpAny_evalPart_some (he.go hA Ext.refl0 I F h fun v s₁ μ₁ H₁ d I₁ x₁ _ F₁ r₁ q₁ => ⟨μ₁, H₁, some d, I₁, x₁, r₁, q₁⟩)

theorem RepO.ext {h h' : Heap} {μ μ' : List Addr} (x : Ext true [] h μ h' μ') {v : Value} : ∀ {d : Option D}, RepO h μ v d → RepO h' μ' v d
  | none, r => r
  | some _, r => Rep.ext x OwnOk.nil r

theorem se_Slice {v : Expr} {lo hi : Option Expr} {sp pos : Pos} (hv : SE G l k p v) (hlo : SO G l k p lo) (hhi : SO G l k p hi) : SE G l k p (.Subscript v (.Slice lo hi none sp) pos) := by
  intro A env loc H Q X s μ hA I F h
  refine Subscript_ (hv.go hA Ext.refl0 I F h fun va s₁ μ₁ H₁ da I₁ x₁ _ F₁ r₁ q₁ => wpAny_Slice (hlo.go hA x₁ I₁ F₁ q₁ fun vl s₂ μ₂ H₂ dl I₂ x₂ y₂ F₂ r₂ q₂ => hhi.go hA y₂ I₂ F₂ q₂ fun vu s₃ μ₃ H₃ dh I₃ x₃ y₃ _ r₃ q₃ => ?_))
  obtain ⟨d, e, q⟩ := q₃
  have ra := I₃.view (r₁.ext (x₂.trans x₃) OwnOk.nil)
  have r₂' := RepO.ext x₃ r₂
  refine wpAny_evalPart_none ?_
  unfold sliceD at e
  split at e
  · rename_i i j hi' hj'
    obtain ⟨p1, n1⟩ := part_ok hi' r₂'
    obtain ⟨p2, n2⟩ := part_ok hj' r₃
    split at e
    · rename_i ds hds
      cases e
      rw [hds] at ra
      obtain ⟨a, vs, n, rfl, ha, za, rs⟩ := ra.lst
      have ha' := Heap.get?_push_of_some (h := s₃.heap) { cls := .type "slice", data := .fields #[vl, vu, .none] } ha
      have hlen := (cut_pick rs n1 n2).2
      refine tail_any ⟨_, ha', rfl⟩ slot_list_getitem.lookup (wpAny_getItem_list_slice ⟨_, ha', rfl, _, rfl⟩ (Heap.IsSliceOf.new _ _ _ _) p1 p2 .none (by simp) ?_ (by simpa using za)) rfl
      have k1 : ∀ b o, s₃.heap.get? b = some o → (s₃.heap.push { cls := .type "slice", data := .fields #[vl, vu, .none] }).get? b = some o := fun _ _ e => Heap.get?_push_of_some _ e
      have I₄ := I₃.keeps (tk := s₃.toks) k1
      have x₄ : Ext true [] s₃.heap μ₃ (s₃.heap.push { cls := .type "slice", data := .fields #[vl, vu, .none] }) μ₃ := Ext.of_keeps0 k1
      refine EvP.ofOp I₄ (y₃.trans x₄) q ⟨keeps_push, ?_⟩
      have := rep_newList (h := s₃.heap.push { cls := .type "slice", data := .fields #[vl, vu, .none] }) I₄.live ((cut_pick rs n1 n2).1.keeps k1) (Nat.le_trans hlen za)
      simpa using this
    · cases e
  · cases e

theorem se_Subscript {v i : Expr} {pos : Pos} (hv : SE G l k p v) (hi : SE G l k p i) (hns : ∀ lo hi sp, i ≠ .Slice lo hi none sp) : SE G l k p (.Subscript v i pos) := by
  intro A env loc H Q X s μ hA I F h
  have h' : awE p (kcOf env.scope.names) v loc H (fun a H₁ => awE p (kcOf env.scope.names) i loc H₁ (fun b H₂ => ∃ d, idxD (view H₂ a) b = some d ∧ Q d H₂) X) X := by
    cases i with
    | Slice lo hi st sp => cases st with
      | none => exact absurd rfl (hns _ _ _)
      | some e => exact h
    | _ => exact h
  clear h
  · refine Subscript_ (hv.go hA Ext.refl0 I F h' fun va s₁ μ₁ H₁ da I₁ x₁ _ F₁ r₁ q₁ => hi.go hA x₁ I₁ F₁ q₁ fun vi s₂ μ₂ H₂ di I₂ x₂ y₂ _ r₂ q₂ => ?_)
    obtain ⟨d, e, q⟩ := q₂
    refine wpAny_mono (idx_ok e (I₂.view (r₁.ext x₂ OwnOk.nil)) (.inl r₂) (fun o j => ?_)) (fun v s' o => ?_) (fun _ _ y => y)
    · unfold subscripted
      split
      · exact absurd rfl (hns _ _ _)
      · rename_i q; cases q
      · rfl
    · obtain ⟨rfl, r⟩ := o
      exact ⟨μ₂, H₂, d, I₂, y₂, r, q⟩
end

end YV
end

section
set_option maxRecDepth 100000
set_option autoImplicit false
namespace YV
open PySem PySem.Calls PyProof.Rows PySem.W
theorem lk_list_keys : typeLookup (.type "list") "keys" = pure none := by rw [typeLookup_type, builtinLookup_eq_fast]; kernel_rfl
theorem lk_list_getattr : typeLookup (.type "list") "__getattr__" = pure none := by rw [typeLookup_type, builtinLookup_eq_fast]; kernel_rfl
variable {prog : Program} {w : World} {A : Around} {E : Value → Shared → Prop} {h : Heap} {g : Array GenState} {d : Drawn} {t : Nat} {os : OsState} {a : Addr} {vs : List Value} {n : Nat}
theorem keys_entry {tk : Tok} {Q : PySem.Fin → Shared → Prop} (hh : A.handled = none) (hx : h.get? a = some (listO vs n)) (hE : ∀ h' tk e, Heap.NewAttrErr h h' e (.ref a) "keys" → E (.ref e) ⟨h', g, d, tk, os⟩) :
    wpAny (model prog w) A (Builtin.«object.__getattribute__» ⟨[.ref a, .str "keys" tk], []⟩) Q E ⟨h, g, d, t, os⟩ := by
  have hT : (⟨h, g, d, t, os⟩ : Shared).TypeIs (.ref a) "list" := ⟨_, hx, rfl⟩
  have f4 := lk_list_keys
  repeat (any_goals (first | assumption | wp_step))
  exact wpAny_raiseAttrError hh hE (by decide +kernel)

theorem keys_call {tk : Tok} {R : Result → Shared → Prop} (hh : A.handled = none) (hx : h.get? a = some (listO vs n)) (hE : ∀ h' tk e, Heap.NewAttrErr h h' e (.ref a) "keys" → R (.error (.ref e)) ⟨h', g, d, tk, os⟩) :
    codeAny (model prog w) A (.call (.builtin "list.__getattribute__") ⟨[.ref a, .str "keys" tk], []⟩) R ⟨h, g, d, t, os⟩ :=
  codeAny_call_builtin F.slot_list_getattribute.plain F.entry_list_ga (F.slot_list_getattribute.check _ _ _ _ _ _ _ _ (show (⟨h, g, d, t, os⟩ : Shared).TypeIs (.ref a) "list" from ⟨_, hx, rfl⟩) (F.args_list_getattribute_2 _ _) (keys_entry hh hx hE))

theorem keys_none {Q : Option Value → Shared → Prop} (hh : A.handled = none) (hx : h.get? a = some (listO vs n)) (hq : ∀ h' tk, (∀ b o, h.get? b = some o → h'.get? b = some o) → Q none ⟨h', g, d, tk, os⟩) :
    wpAny (model prog w) A (getAttr? (.ref a) "keys") Q E ⟨h, g, d, t, os⟩ := by
  have hT : ∀ t, (⟨h, g, d, t, os⟩ : Shared).TypeIs (.ref a) "list" := fun _ => ⟨_, hx, rfl⟩
  have f1 := sub_AttributeError
  have f2 := F.slot_list_getattribute.lookup
  have f3 := F.slot_list_getattribute.bind (.ref a)
  have f5 := lk_list_getattr
  unfold getAttr? getAttrBy? getAttrBy
  repeat (any_goals (first | assumption | (with_reducible refine keys_call hh hx fun h' tk' e hx' => ?_) | wp_step))
  refine keys_call hh hx fun h' tk' e hx' => ?_
  obtain ⟨t', u', he⟩ := hx'.there
  show wpAny _ _ (getattributeRaised _ _ _ _ _ _ _) _ _ _
  unfold getattributeRaised
  repeat (any_goals (first | assumption | wp_step))
  exact hq _ _ hx'.keeps

theorem entry_update_loop : entryFor table "dict.update.loop" = some Builtin.«dict.update.loop» := entryFor_of_fast (by kernel_rfl)

section
variable {knd : KeyKind prog w Int} {s : Shared} {R : Result → Shared → Prop} {da it : Addr} {kvs : List (Int × Value)}

/-- one pair -/
noncomputable def PairAt (h : Heap) (v : Value) (q : Int × Value) : Prop := ∃ a t n, v = .ref a ∧ h.get? a = some (tupO [.int q.1 t, q.2] n)

theorem loop_ok (hh : A.handled = none) (hdi : da ≠ it) (had : a ≠ da) (hai : a ≠ it) : ∀ (qs : List (Int × Value)) (i : Nat) (j : Int) (tj : Tok) (kvs : List (Int × Value)) (s : Shared), s.heap.get? a = some (listO vs n) → (∀ k, (hk : k < qs.length) → ∃ v, vs[i + k]? = some v ∧ PairAt s.heap v qs[k]) → vs.length = i + qs.length → kvs.length + qs.length ≤ 1000 →
    s.heap.IsListIter it a i → s.heap.DictOf (PySem.intKind prog w) da kvs →
    (∀ h' tk, h'.DictOf (PySem.intKind prog w) da (qs.foldl (fun acc q => stored acc q.1 q.2) kvs) → (∀ b o, b ≠ da → b ≠ it → s.heap.get? b = some o → h'.get? b = some o) → R (.ok (.ret .none)) { s with heap := h', toks := tk }) →
    codeAny (model prog w) A (.builtin "dict.update.loop" ⟨[.ref da, .ref it, .int j tj, .none], []⟩) R s := by
  intro qs
  induction qs with
  | nil =>
    intro i j tj kvs s hl hp hv hz hit hd hR
    refine codeAny_builtin entry_update_loop ?_
    unfold Builtin.«dict.update.loop»
    refine wpAny_bind (wpAny_pyNext_list_end hh hit ⟨_, hl, rfl, _, rfl⟩ (by simp at hv ⊢; omega) fun h' k => ?_)
    refine wpAny_bind (wpAny_pure (wpAny_pure ?_))
    have hd' : h'.DictOf (PySem.intKind prog w) da kvs := by
      obtain ⟨o, es, ep, ho, r⟩ := hd
      exact ⟨o, es, ep, k da o hdi ho, r⟩
    exact hR h' s.toks hd' fun b o _ hb e => k b o hb e
  | cons q qs ih =>
    intro i j tj kvs s hl hp hv hz hit hd hR
    refine codeAny_builtin entry_update_loop ?_
    unfold Builtin.«dict.update.loop»
    obtain ⟨v, hv0, ⟨ap, tp, np, rfl, hpa⟩⟩ := hp 0 (by simp)
    refine wpAny_bind (wpAny_pyNext_list_item hit ⟨_, hl, rfl, _, rfl⟩ (x := .ref ap) (by simpa using hv0) fun h' hit' hs' => ?_)
    have kind : ∀ (b : Addr) (xs : List Value) (m : Nat), s.heap.get? b = some (tupO xs m) → b ≠ it ∧ b ≠ da := fun b xs m hb => by
      constructor
      · rintro rfl
        obtain ⟨o, ho, hc, _⟩ := hit
        rw [hb] at ho; cases ho; exact absurd hc (by simp)
      · rintro rfl
        obtain ⟨o, es, ep, ho, hc, hdd, _⟩ := hd
        rw [hb] at ho; cases ho; cases hdd
    have hpa' : h'.get? ap = some (tupO [.int q.1 tp, q.2] np) := hs'.extBut ap _ (kind _ _ _ hpa).1 hpa
    have hd' : h'.DictOf (PySem.intKind prog w) da kvs := hd.sameBut hs' hdi
    dsimp only
    refine wpAny_bind (wpAny_holding (wpAny_bind (wpAny_tryCatch ?_)))
    unfold Builtin.Dict.pairItems
    refine wpAny_bind (wpAny_typeOf (T := "tuple") ⟨_, hpa', rfl⟩ ?_)
    rw [if_pos (by decide)]
    refine wpAny_bind (wpAny_seqItems hpa' rfl (wpAny_pure ?_))
    show wpAny _ _ (holding [_, _] (dictSet da (.int q.1 tp) q.2)) _ _ _
    refine wpAny_holding (wpAny_dictSet_pairs (knd := PySem.intKind prog w) (k := q.1) (by simp [PySem.intKind, Value.isInt]) hd' (fun h'' hd'' hs'' => ?_) (by rw [sizeLine_eq]; simp at hz; omega))
    refine wpAny_pure ⟨Code.quiet_builtin _ (by decide +kernel), ?_⟩
    refine ih (i + 1) (j + 1) _ (stored kvs q.1 q.2) _ ?_ ?_ (by simp at hv ⊢; omega) ?_ ?_ hd'' ?_
    · exact hs''.extBut a _ had (hs'.extBut a _ hai hl)
    · intro k hk
      obtain ⟨v, g1, b, t', n', rfl, g2⟩ := hp (k + 1) (by simp; omega)
      obtain ⟨n1, n2⟩ := kind _ _ _ g2
      exact ⟨_, by rw [← g1]; congr 1; omega, b, t', n', rfl, hs''.extBut b _ n2 (hs'.extBut b _ n1 g2)⟩
    · have : (stored kvs q.1 q.2).length ≤ kvs.length + 1 := by unfold stored; split <;> simp
      simp at hz ⊢; omega
    · obtain ⟨o, ho, r⟩ := hit'
      exact ⟨o, hs''.extBut it _ (Ne.symm hdi) ho, r⟩
    · intro h3 tk hd3 k3
      exact hR h3 tk hd3 fun b o b1 b2 e => k3 b o b1 b2 (hs''.extBut b o b1 (hs'.extBut b o b2 e))

/-- dict(list of pairs) -/
theorem dict_pairs {Q : Value → Shared → Prop} {qs : List (Int × Value)} (hh : A.handled = none) (hl : s.heap.get? a = some (listO vs n)) (hp : ∀ k, (hk : k < qs.length) → ∃ v, vs[k]? = some v ∧ PairAt s.heap v qs[k]) (hv : vs.length = qs.length) (hz : qs.length ≤ 1000)
    (h : ∀ h' tk, h'.DictOf (PySem.intKind prog w) s.heap.objs.size (qs.foldl (fun acc q => stored acc q.1 q.2) []) → (∀ b o, s.heap.get? b = some o → h'.get? b = some o) → Q (.ref s.heap.objs.size) { s with heap := h', toks := tk }) :
    wpAny (model prog w) A (call (.type "dict") [.ref a]) Q E s := by
  refine callType_codes (Q₁ := fun obj s₁ => obj = .ref s.heap.objs.size ∧ s₁ = { s with heap := s.heap.push { cls := .type "dict", data := .dict #[] } }) F.kt_called_dict (F.kt_typeCall_dict_1 _) F.entry_dict_init (kt_code_dict_new _ ⟨rfl, rfl⟩) ?_
  rintro obj s₁ ⟨rfl, rfl⟩
  have hnew : (s.heap.push { cls := .type "dict", data := .dict #[] }).DictOf (PySem.intKind prog w) s.heap.objs.size [] := Heap.DictOf.new s.heap
  have hl' : (s.heap.push { cls := .type "dict", data := .dict #[] }).get? a = some (listO vs n) := Heap.get?_push_of_some _ hl
  refine ⟨hnew.typeIs, F.args_dict_init_2 _ _, ?_⟩
  unfold Builtin.«dict.__init__»
  refine wpAny_bind ?_
  unfold Builtin.Dict.selfAndRest
  refine wpAny_bind (wpAny_notOrdered_dict hnew.typeIs ?_)
  show wpAny _ _ (pure (s.heap.objs.size, [Value.ref a])) _ _ _
  refine wpAny_pure ?_
  show wpAny _ _ (Builtin.Dict.updateFrom "dict.__init__" s.heap.objs.size (.ref a) [] .none) _ _ _
  unfold Builtin.Dict.updateFrom
  refine wpAny_bind (wpAny_typeOf (T := "list") ⟨_, hl', rfl⟩ ?_)
  rw [if_pos (by decide)]
  obtain ⟨hp0, g0, d0, t0, os0⟩ := s
  refine wpAny_bind (keys_none hh hl' fun h2 tk2 k2 => ?_)
  rw [if_pos (show (none : Option Value).isNone = true from rfl)]
  refine wpAny_bind (wpAny_rule (wpAny_bind ?_))
  have hl2 := k2 _ _ hl'
  have hd2 : h2.DictOf (PySem.intKind prog w) hp0.objs.size [] := by
    obtain ⟨o, es, ep, ho, r⟩ := hnew
    exact ⟨o, es, ep, k2 _ o ho, r⟩
  refine wpAny_pyIter_list ⟨_, hl2, rfl, _, rfl⟩ ?_
  refine wpAny_pure ⟨Code.quiet_builtin _ (by decide +kernel), ?_⟩
  have k3 : ∀ b o, h2.get? b = some o → (h2.push { cls := .type "list_iterator", data := .fields #[.ref a, .int 0 0] }).get? b = some o := fun b o e => Heap.get?_push_of_some _ e
  have hit : (h2.push { cls := .type "list_iterator", data := .fields #[.ref a, .int 0 0] }).IsListIter h2.objs.size a 0 := ⟨_, Heap.get?_push_size _ rfl, rfl, rfl⟩
  have hlt : hp0.objs.size < h2.objs.size := by obtain ⟨o, es, ep, ho, _⟩ := hd2; exact Heap.lt_size ho
  have hat : a < h2.objs.size := Heap.lt_size hl2
  have ha0 : a < hp0.objs.size := Heap.lt_size hl
  refine loop_ok (A := A.in1) (prog := prog) (w := w) (a := a) (vs := vs) (n := n) hh (Nat.ne_of_lt hlt) (Nat.ne_of_lt ha0) (Nat.ne_of_lt hat) qs 0 0 _ [] ⟨h2.push { cls := .type "list_iterator", data := .fields #[.ref a, .int 0 0] }, g0, d0, tk2, os0⟩ (k3 _ _ hl2) (fun k hk => ?_) (by simpa using hv) (by simpa using hz) hit ?_ ?_
  · obtain ⟨v, g1, b, t', n', rfl, g2⟩ := hp k hk
    exact ⟨_, by simpa using g1, b, t', n', rfl, k3 _ _ (k2 _ _ (Heap.get?_push_of_some _ g2))⟩
  · obtain ⟨o, es, ep, ho, r⟩ := hd2
    exact ⟨o, es, ep, k3 _ o ho, r⟩
  · intro h' tk hd' kk
    refine ⟨rfl, h h' tk hd' fun b o e => ?_⟩
    have hb : b < hp0.objs.size := Heap.lt_size e
    exact kk b o (Nat.ne_of_lt hb) (Nat.ne_of_lt (Nat.lt_trans hb hlt)) (k3 _ _ (k2 _ _ (Heap.get?_push_of_some _ e)))
end
end YV
end

section
set_option autoImplicit false
set_option linter.unusedVariables false
set_option maxRecDepth 10000
namespace YV
open PySem PySem.Calls PyProof.Rows PySem.W

theorem attrBase_plain {o : Expr} {attr : Str} {env : Env} {whole : Sem Value} (h : plainBase o = true) : attributeBase o attr env whole = whole := by
  unfold attributeBase
  split
  · rename_i id po pos
    cases h
  · rfl

theorem args_plain {env : Env} {pos : Pos} : ∀ {es : List Expr}, es.all plainE = true → (backTo pos (starEach es env)).any (·.1) = false ∧ (backTo pos (starEach es env)).all (fun x => !x.1) = true
  | [], _ => ⟨rfl, rfl⟩
  | e :: es, h => by
    obtain ⟨h1, h2⟩ := Bool.and_eq_true_iff.mp (by simpa using h : (plainE e && es.all plainE) = true)
    obtain ⟨i1, i2⟩ := args_plain (env := env) (pos := pos) h2
    rw [star_plain h1]
    exact ⟨by simpa [backTo] using i1, by simpa [backTo] using i2⟩

theorem nodup_inj {l : List Addr} (h : l.Nodup) {i j : Nat} (hi : i < l.length) (hj : j < l.length) (e : l[i] = l[j]) : i = j := (List.getElem_inj h).mp e

section
variable {G : Gl} {l : List Env} {k : Nat} {p : Pg}

theorem evalArgs_all {M : Model} {A : Around} {E : Value → Shared → Prop} {s : Shared} {f : Value} {Q : Args → Shared → Prop} {env : Env} {pos : Pos} {es : List Expr} (hp : es.all plainE = true)
    (h : wpAny M A (spliced (backTo pos (starEach es env))) (fun vs s' => Q ⟨vs, []⟩ s') E s) : wpAny M A (evalArgs f true (backTo pos (starEach es env)) []) Q E s := by
  cases es with
  | nil => exact fun Γ pp hΓ => PyProof.Rows.evalArgs_none (f := f) (Q := Q) (E := E) (h Γ pp hΓ) Γ pp hΓ
  | cons e es =>
    have h1 := (Bool.and_eq_true_iff.mp (by simpa using hp : (plainE e && es.all plainE) = true)).1
    rw [star_plain h1] at h ⊢
    exact evalArgs_plain h

/-- a namespace's dict, looked into -/
theorem lookIn_ns {o : Obj} {es : Array DictEntry} {ep : Nat} {name : Str} {r : Option Value} (hd : o.data = .dict es ep) (hk : StrKeys es) (hf : nsFind es name = r) : lookIn name o = some r := by
  unfold lookIn
  rw [hd]
  dsimp only
  unfold nsFind findBy at hf
  rw [← Array.find?_toList] at hf
  have hr : es.toList.any (·.refKey) = false := by
    rw [Bool.eq_false_iff]
    intro q
    obtain ⟨e, he, q⟩ := List.any_eq_true.mp q
    obtain ⟨n, t, hn⟩ := hk e (Array.mem_toList_iff.mp he)
    unfold DictEntry.refKey at q
    rw [hn] at q
    cases q
  rw [hr]
  cases hq : es.toList.find? (fun e => e.key.isStr name) with
  | none => rw [hq] at hf; exact congrArg some hf
  | some e => rw [hq] at hf; exact congrArg some hf

theorem Inv.inst {μ : List Addr} {H : Hp} {s : Shared} (I : Inv G l μ H s) {v : Value} {C : Addr} {i : Nat} {fs : List (Str × D)} (r : Rep s.heap μ v (.inst C i)) (hH : H[i]? = some (.dict fs)) :
    ∃ (x dx : Addr) (od : Obj) (es : Array DictEntry) (ep : Nat) (m : Str → Option Value), v = .ref x ∧ s.heap.get? x = some (instO C dx) ∧ μ[i]? = some dx ∧ s.heap.get? dx = some od ∧ od.data = .dict es ep ∧ StrKeys es ∧ (∀ y, nsFind es y = m y) ∧ InstAt s.heap x (instO C dx) C (some od) ∧
      ∀ y, match getL y fs with | some d => ∃ v, m y = some v ∧ Rep s.heap μ v d | none => m y = none := by
  obtain ⟨x, dx, rfl, h1, h2, h3⟩ := r.inv
  obtain ⟨m, ⟨od, es, ep, ho, hd, hk, _, hf⟩, hm⟩ := I.objs i dx _ h3 hH
  exact ⟨x, dx, od, es, ep, m, rfl, h1, h3, ho, hd, hk, hf, ⟨h1, rfl, rfl, ho⟩, hm⟩

theorem handed_rep {h : Heap} {μ : List Addr} {v : Value} {d : D} (r : Rep h μ v d) (hb : ∀ id, d ≠ .bi id) : handedIn v = true := by
  cases r <;> first | rfl | exact absurd rfl (hb _)

theorem attr_inv {H : Hp} {a d : D} {name : Str} (e : attrD p H a name = some d) : ∃ C i fs, a = .inst C i ∧ p.fld C name = true ∧ H[i]? = some (.dict fs) ∧ getL name fs = some d ∧ ∀ id, d ≠ .bi id := by
  cases a <;> first | (cases e; done) | skip
  rename_i C i
  unfold attrD at e
  dsimp only at e
  split at e
  · rename_i hf
    cases hH : H[i]? with
    | none => rw [hH] at e; cases e
    | some o =>
      rw [hH] at e
      cases o <;> first | (cases e; done) | skip
      rename_i fs
      dsimp only at e
      refine ⟨C, i, fs, rfl, hf, hH, ?_⟩
      split at e
      · cases e
      · rename_i hn; exact ⟨e, fun id q => hn id (by rw [e, q])⟩
  · cases e
theorem attr_ok (P : POk G k p) {A : Around} {H : Hp} {s : Shared} {μ : List Addr} {E : Value → Shared → Prop} {v : Value} {a d : D} {name : Str} {ex : Bool} (I : Inv G l μ H s) (r : Rep s.heap μ v a) (e : attrD p H a name = some d) :
    wpAny (model G.prog G.w) A (getAttr v name ex) (OpP s μ d) E s := by
  obtain ⟨C, i, fs, rfl, hf, hH, hg, hb⟩ := attr_inv e
  obtain ⟨x, dx, od, es, ep, m, rfl, h1, h3, ho, hd, hk, hf', IA, hm⟩ := I.inst r hH
  obtain ⟨f1, f2, attr, f3, f4⟩ := P.fld C name hf
  have := hm name
  rw [hg] at this
  obtain ⟨v, hv, rv⟩ := this
  exact get_value (I.K P) IA (plainGet_of f1).1 (findObj_own f2 f3 f4 (lookIn_ns hd hk ((hf' name).trans hv))) (handed_rep rv hb) ⟨keeps_toks, rv⟩

theorem se_Attribute (P : POk G k p) {o : Expr} {name : Str} {pos : Pos} (ho : SE G l k p o) : SE G l k p (.Attribute o name pos) := by
  intro A env loc H Q X s μ hA I F h
  rw [arm_eval_Attribute, attrBase_plain h.1]
  refine wpAny_bind (ho.go hA Ext.refl0 I F h.2 fun v s₁ μ₁ H₁ d I₁ x₁ _ _ r₁ q₁ => ?_)
  obtain ⟨d', e, q⟩ := q₁
  exact wpAny_bind (wpAny_standAt (wpAny_bind (wpAny_holding (wpAny_mono (attr_ok P I₁ r₁ e) (fun v' s₂ o => wpAny_bind (wpAny_letTemporaryGo (wpAny_pure (EvP.ofOp I₁ x₁ q o)))) fun _ _ y => y))))

/-- a call of a thing of the program's -/
theorem call_ok (P : POk G k p) {A : Around} {H : Hp} {s s₀ : Shared} {μ μ₀ : List Addr} {Q : D → Hp → Prop} {X : Value → Hp → Prop} {a : Addr} {vs : List Value} {ds : List D} (hA : AOk A l k) (I : Inv G l μ H s) (x : Ext true [] s₀.heap μ₀ s.heap μ) (r : Reps s.heap μ vs ds) (h : p.cw a ds H Q X) :
    wpAny (model G.prog G.w) A (call (.ref a) vs) (EvP G l μ₀ s₀ Q) (EvX G l μ₀ s₀ X) s := by
  refine wpAny_call (codeAny_mono (P.cw a ds H Q X h A l s μ vs hA I r) fun rs s' h' => ?_)
  unfold RetP at h'
  split at h'
  · exact EvP.back x h'
  · exact h'.elim
  · exact EvX.back x h'

theorem Inv.views {μ : List Addr} {H : Hp} {s : Shared} (I : Inv G l μ H s) {vs : List Value} {ds : List D} (r : Reps s.heap μ vs ds) : Views s.heap μ vs (ds.map (YV.view H)) :=
  Reps.ind (P := fun vs ds => Views s.heap μ vs (ds.map (YV.view H))) .nil (fun _ _ _ _ a _ ih => .cons (I.view a) ih) ds vs r

/-- a new dict of pairs -/
theorem Inv.newDic {μ : List Addr} {H : Hp} {s : Shared} (I : Inv G l μ H s) {kvs : List (Int × Value)} {es : List (Int × D)} {h' : Heap} {a : Addr} (hk : ∀ b o, s.heap.get? b = some o → h'.get? b = some o) (hn : s.heap.get? a = none)
    (hd : ∀ prog w, h'.DictOf (PySem.intKind prog w) a kvs) (h1 : kvs.map (·.1) = es.map (·.1)) (r : Reps s.heap μ (kvs.map (·.2)) (es.map (·.2))) (hs : (a == sysModules) = false) {tk : Nat} :
    Inv G l (μ ++ [a]) (H ++ [.dic es]) { s with heap := h', toks := tk } ∧ Ext true [] s.heap μ h' (μ ++ [a]) := I.newObj (o' := .dic es) hk hn fun hr => ⟨kvs, hd, h1, r.mono hr, hs⟩

theorem pairs_cons {d : D} {ds : List D} {ps : List (Int × D)} (e : pairsOf (d :: ds) = some ps) : ∃ i b l, d = .tup [.int i, b] ∧ pairsOf ds = some l ∧ ps = (i, b) :: l := by
  obtain ⟨es, he, e⟩ := bindS e
  obtain ⟨q, hq, e⟩ := bindS e
  obtain ⟨l, hl, rfl⟩ := Option.map_eq_some_iff.mp e
  rcases es with _ | ⟨d1, _ | ⟨d2, _ | ⟨d3, es⟩⟩⟩ <;> first | (cases hq; done) | skip
  obtain ⟨i, hi, rfl⟩ := Option.map_eq_some_iff.mp hq
  exact ⟨i, d2, l, by rw [asU_some he, asI_some hi], hl, rfl⟩
theorem pairs_of {h : Heap} {μ : List Addr} {ws : List Value} {l : List D} (r : Reps h μ ws l) : ∀ {ps : List (Int × D)}, pairsOf l = some ps →
    ∃ qs : List (Int × Value), qs.map (·.1) = ps.map (·.1) ∧ Reps h μ (qs.map (·.2)) (ps.map (·.2)) ∧ ws.length = qs.length ∧ ∀ k, (hk : k < qs.length) → ∃ v, ws[k]? = some v ∧ PairAt h v qs[k] :=
  Reps.ind (P := fun ws l => ∀ {ps : List (Int × D)}, pairsOf l = some ps → ∃ qs : List (Int × Value), qs.map (·.1) = ps.map (·.1) ∧ Reps h μ (qs.map (·.2)) (ps.map (·.2)) ∧ ws.length = qs.length ∧ ∀ k, (hk : k < qs.length) → ∃ v, ws[k]? = some v ∧ PairAt h v qs[k])
    (fun e => by cases e; exact ⟨[], rfl, .nil, rfl, fun k hk => nomatch hk⟩) (fun _ _ _ _ r _ ih {ps} e => by
      obtain ⟨i, b, l, rfl, hl, rfl⟩ := pairs_cons e
      obtain ⟨qs, q1, q2, q3, q4⟩ := ih hl
      obtain ⟨a, vs, n, rfl, h1, _, _, r⟩ := r.inv
      obtain ⟨v1, vs, rfl, ra, r⟩ := r.inv
      obtain ⟨v2, vs, rfl, rb, r⟩ := r.inv
      obtain rfl := r.inv
      obtain ⟨t, rfl⟩ := ra.inv
      exact ⟨(i, v2) :: qs, congrArg (i :: ·) q1, .cons rb q2, congrArg (· + 1) q3, fun k hk => match k with | 0 => ⟨_, rfl, a, t, n, rfl, h1⟩ | k + 1 => q4 k (Nat.lt_of_succ_lt_succ hk)⟩) l ws r

theorem pairs_any {prog prog' : Program} {w w' : World} : ∀ {es : List DictEntry} {kvs : List (Int × Value)}, Pairs (PySem.intKind prog w) es kvs → Pairs (PySem.intKind prog' w') es kvs := by
  intro es kvs h
  induction h with
  | nil => exact .nil
  | cons a b _ ih => exact .cons a b ih
theorem dictOf_any {prog prog' : Program} {w w' : World} {h : Heap} {a : Addr} {kvs : List (Int × Value)} (x : h.DictOf (PySem.intKind prog w) a kvs) : h.DictOf (PySem.intKind prog' w') a kvs := by
  obtain ⟨o, es, ep, h1, h2, h3, h4, h5, h6⟩ := x
  exact ⟨o, es, ep, h1, h2, h3, h4, pairs_any h5, h6⟩

theorem stored_put {h : Heap} {μ : List Addr} {k : Int} {v : Value} {d : D} (r : Rep h μ v d) : ∀ {kvs : List (Int × Value)} {es : List (Int × D)}, kvs.map (·.1) = es.map (·.1) → Reps h μ (kvs.map (·.2)) (es.map (·.2)) →
    (stored kvs k v).map (·.1) = (putI k d es).map (·.1) ∧ Reps h μ ((stored kvs k v).map (·.2)) ((putI k d es).map (·.2)) := by
  intro kvs es h1 h2
  have hany : kvs.any (fun p => decide (p.1 = k)) = es.any (fun e => decide (e.1 = k)) := by
    have a1 : kvs.any (fun p => decide (p.1 = k)) = (kvs.map (·.1)).any (fun i => decide (i = k)) := by rw [List.any_map]; rfl
    have a2 : es.any (fun p => decide (p.1 = k)) = (es.map (·.1)).any (fun i => decide (i = k)) := by rw [List.any_map]; rfl
    rw [a1, a2, h1]
  have hmap : ∀ (kvs : List (Int × Value)) (es : List (Int × D)), kvs.map (·.1) = es.map (·.1) → Reps h μ (kvs.map (·.2)) (es.map (·.2)) →
      (kvs.map fun p => if p.1 = k then (p.1, v) else p).map (·.1) = (es.map fun e => if e.1 = k then (e.1, d) else e).map (·.1) ∧ Reps h μ ((kvs.map fun p => if p.1 = k then (p.1, v) else p).map (·.2)) ((es.map fun e => if e.1 = k then (e.1, d) else e).map (·.2)) := by
    intro kvs
    induction kvs with
    | nil => intro es g1 g2; cases es with
      | nil => exact ⟨rfl, .nil⟩
      | cons e es => cases g1
    | cons q kvs ih => intro es g1 g2; cases es with
      | nil => cases g1
      | cons e es =>
        simp only [List.map_cons, List.cons.injEq] at g1
        obtain ⟨g0, g1⟩ := g1
        cases g2 with
        | cons ra rb =>
          obtain ⟨i1, i2⟩ := ih es g1 rb
          by_cases hq : e.1 = k
          · have hq' : q.1 = k := g0.trans hq
            refine ⟨?_, ?_⟩
            · simp only [List.map_cons, if_pos hq, if_pos hq', g0]
              exact congrArg _ i1
            · simp only [List.map_cons, if_pos hq, if_pos hq']
              exact .cons r i2
          · have hq' : ¬ q.1 = k := fun z => hq (g0.symm.trans z)
            refine ⟨?_, ?_⟩
            · simp only [List.map_cons, if_neg hq, if_neg hq', g0]
              exact congrArg _ i1
            · simp only [List.map_cons, if_neg hq, if_neg hq']
              exact .cons ra i2
  unfold stored putI
  by_cases hq : es.any (fun e => decide (e.1 = k)) = true
  · rw [if_pos hq, if_pos (hany.trans hq)]
    exact hmap kvs es h1 h2
  · rw [if_neg hq, if_neg (fun z => hq (hany.symm.trans z))]
    refine ⟨by simp [h1], ?_⟩
    rw [List.map_append, List.map_append]
    exact h2.append (.cons r .nil)

theorem fold_put {h : Heap} {μ : List Addr} : ∀ {qs : List (Int × Value)} {ps : List (Int × D)} {kvs : List (Int × Value)} {es : List (Int × D)}, qs.map (·.1) = ps.map (·.1) → Reps h μ (qs.map (·.2)) (ps.map (·.2)) → kvs.map (·.1) = es.map (·.1) → Reps h μ (kvs.map (·.2)) (es.map (·.2)) →
    (qs.foldl (fun acc q => stored acc q.1 q.2) kvs).map (·.1) = (ps.foldl (fun es p => putI p.1 p.2 es) es).map (·.1) ∧ Reps h μ ((qs.foldl (fun acc q => stored acc q.1 q.2) kvs).map (·.2)) ((ps.foldl (fun es p => putI p.1 p.2 es) es).map (·.2))
  | [], [], _, _, _, _, h1, h2 => ⟨h1, h2⟩
  | [], _ :: _, _, _, g1, _, _, _ => by cases g1
  | _ :: _, [], _, _, g1, _, _, _ => by cases g1
  | q :: qs, e :: ps, kvs, es, g1, g2, h1, h2 => by
    simp only [List.map_cons, List.cons.injEq] at g1
    obtain ⟨g0, g1⟩ := g1
    cases g2 with
    | cons ra rb =>
      obtain ⟨i1, i2⟩ := stored_put (k := q.1) ra h1 h2
      simp only [List.foldl_cons]
      rw [← g0]
      exact fold_put g1 rb i1 i2

theorem dict_ok (P : POk G k p) {A : Around} {H : Hp} {s s₀ : Shared} {μ μ₀ : List Addr} {Q : D → Hp → Prop} {E : Value → Shared → Prop} {vs : List Value} {ds : List D} (hh : A.handled = none) (I : Inv G l μ H s) (x : Ext true [] s₀.heap μ₀ s.heap μ) (rv : Views s.heap μ vs ds) (q : dictW ds H Q) :
    wpAny (model G.prog G.w) A (call (.type "dict") vs) (EvP G l μ₀ s₀ Q) E s := by
  unfold dictW at q
  split at q
  · rename_i ls
    obtain ⟨ps, e, hz, q⟩ := q
    obtain _ | ⟨r1, _ | _⟩ := rv
    obtain ⟨a, ws, n, rfl, e1, z1, rs⟩ := r1.lst
    obtain ⟨qs, q1, q2, q3, q4⟩ := pairs_of rs e
    have hlen : qs.length = ps.length := by have := congrArg List.length q1; simpa using this
    obtain ⟨mg, mb, hmg, _⟩ := P.names
    have hsm : (s.heap.objs.size == sysModules) = false := by
      obtain ⟨o, es, ep, ho, _⟩ := hmg
      have h3 := Heap.lt_size (I.stays _ _ ho)
      have : (3 : Nat) < s.heap.objs.size := h3
      exact beq_eq_false_iff_ne.mpr (fun z => by rw [z] at this; exact absurd this (by decide))
    refine dict_pairs hh e1 q4 q3 (by omega) fun h' tk hd' kk => ?_
    obtain ⟨f1, f2⟩ := fold_put (kvs := []) (es := []) q1 q2 rfl .nil
    have hn : s.heap.get? s.heap.objs.size = none := push_fresh
    obtain ⟨I', x'⟩ := I.newDic (tk := tk) kk hn (fun prog w => dictOf_any hd') f1 f2 hsm
    exact ⟨_, _, _, I', x.trans x', .mref (by rw [← I.len]; simp), q⟩
  · exact q.elim

theorem lookup_rep {h : Heap} {μ : List Addr} {i : Int} : ∀ {kvs : List (Int × Value)} {es : List (Int × D)}, kvs.map (·.1) = es.map (·.1) → Reps h μ (kvs.map (·.2)) (es.map (·.2)) → ∀ {v : Value} {d : D}, Rep h μ v d → Rep h μ ((valueAt kvs i).getD v) ((es.lookup i).getD d)
  | [], [], _, _, _, _, r => r
  | [], _ :: _, g1, _, _, _, _ => by cases g1
  | _ :: _, [], g1, _, _, _, _ => by cases g1
  | q :: kvs, e :: es, g1, g2, v, d, r => by
    simp only [List.map_cons, List.cons.injEq] at g1
    obtain ⟨g0, g1⟩ := g1
    cases g2 with
    | cons ra rb =>
      have ih := lookup_rep (i := i) g1 rb r
      obtain ⟨k1, v1⟩ := q
      obtain ⟨k2, d2⟩ := e
      cases g0
      by_cases hq : k1 = i
      · subst hq
        simpa [valueAt, List.lookup] using ra
      · have hb : (i == k1) = false := beq_eq_false_iff_ne.mpr fun z => hq z.symm
        have e1 : List.lookup i ((k1, d2) :: es) = List.lookup i es := by rw [List.lookup_cons, hb]
        rw [e1]
        have e2 : valueAt ((k1, v1) :: kvs) i = valueAt kvs i := by simp [valueAt, hq]
        rw [e2]
        exact ih

theorem se_CallName (P : POk G k p) {f : Str} {fp pos : Pos} {args : List Expr} (hargs : SEs G l k p args) : SE G l k p (.Call (.Name f fp) args [] pos) := by
  intro A env loc H Q X s μ hA I F h
  obtain ⟨hp, g, eg, hc, h⟩ := h
  have ha1 := (args_plain (env := env) (pos := pos) hp).1
  refine wpAny_Call_ofName (wpAny_mono (name_ok P I F eg) (fun fv s' h' => ?_) fun _ _ y => y)
  obtain ⟨rfl, rg⟩ := h'
  show wpAny _ _ (callWith pos fv [] (backTo pos (starEach args env)) []) _ _ _
  cases g with
  | glob a =>
    obtain rfl := rg.inv
    exact callWith_of (P := fun h => G.K.In h) (by rw [ha1]; rfl) (fun h X => keeps_K (P.fn a hc) h X) (evalArgs_all hp (hargs.go hA Ext.refl0 I F h fun vs s₁ μ₁ H₁ ds I₁ x₁ _ r₁ _ q₁ => ⟨I₁.K P, call_ok P hA I₁ x₁ r₁ q₁⟩))
  | bi id =>
    obtain rfl := rg.inv
    refine callWith_builtin ha1 (evalArgs_all hp (hargs.go hA Ext.refl0 I F h fun vs s₁ μ₁ H₁ ds I₁ x₁ _ r₁ _ q₁ => ?_))
    obtain ⟨d, e, q₁⟩ := q₁
    exact wpAny_mono (bi_ok hA.handled e (I₁.views r₁)) (fun v s' o => EvP.ofOp I₁ x₁ q₁ o) fun _ _ y => y
  | ty n =>
    obtain rfl := rg.inv
    refine PyProof.Rows.callWith_type ha1 (evalArgs_all hp (hargs.go hA Ext.refl0 I F h fun vs s₁ μ₁ H₁ ds I₁ x₁ _ r₁ _ q₁ => ?_))
    have rv := I₁.views r₁
    by_cases hdn : n = "dict"
    · subst hdn
      dsimp only at q₁
      rw [if_pos rfl] at q₁
      exact dict_ok P hA.handled I₁ x₁ rv q₁
    · dsimp only at q₁
      rw [if_neg hdn] at q₁
      obtain ⟨d, e, q₁⟩ := q₁
      exact wpAny_mono (ty_ok I₁.live e rv) (fun v s' o => EvP.ofOp I₁ x₁ q₁ o) fun _ _ y => y
  | _ => cases hc

/-- one mutable object is changed -/
theorem Inv.setObj {μ : List Addr} {H : Hp} {s : Shared} (I : Inv G l μ H s) {i : Nat} {a : Addr} {o' : AObj} {h' : Heap} {tk : Nat} (ha : μ[i]? = some a) (hk : ∀ b o, b ≠ a → s.heap.get? b = some o → h'.get? b = some o)
    (hd : ∃ o, h'.get? a = some o) (ho : (∀ v d, Rep s.heap μ v d → Rep h' μ v d) → ObjOk h' μ a o') : Inv G l μ (H.set i o') { s with heap := h', toks := tk } ∧ Ext true [] s.heap μ h' μ := by
  have hx : Ext true [] s.heap μ h' μ := ⟨⟨[], by simp⟩, fun b hb => .inl hb, fun b o e hb _ _ => ⟨o.slots, hk b o (fun q => hb (by rw [q]; exact List.mem_of_getElem? ha)) e, fun _ => rfl⟩, fun b o e _ => by
      by_cases q : b = a
      · rw [q]; exact hd
      · exact ⟨o, hk b o q e⟩, fun _ h => nomatch h⟩
  have hr : ∀ v d, Rep s.heap μ v d → Rep h' μ v d := fun v d r => r.ext hx OwnOk.nil
  have hma : a ∈ μ := List.mem_of_getElem? ha
  refine ⟨⟨fun b o e => hk b o (fun q => ?_) (I.stays b o e), I.gens, I.os, ?_, I.fresh, I.nodup, I.apart, (fun env he L hL => let ⟨o, es, n, h1, h2⟩ := I.fd env he L hL; ⟨o, es, n, hk L o (fun q => I.apart env he L hL (by rw [q]; exact hma)) h1, h2⟩), by simp [I.len], ?_⟩, hx⟩
  · rw [q, I.fresh a hma] at e; cases e
  · have gen : ∀ l' : List Env, (∀ env ∈ l', env ∈ l) → s.heap.FunFrames G.base l' → h'.FunFrames G.base l' := by
      intro l'
      induction l' with
      | nil => intro _ _; trivial
      | cons env r ih =>
        intro hin hf
        obtain ⟨k1, ⟨L, o, k2, k3, k4, k5⟩, k6⟩ := hf
        exact ⟨k1, ⟨L, o, k2, k3, hk L o (fun q => I.apart env (hin env (.head _)) L k2 (by rw [q]; exact hma)) k4, k5⟩, ih (fun e he => hin e (.tail _ he)) k6⟩
    exact gen l (fun _ h => h) I.frames
  · intro j b o e1 e2
    by_cases q : j = i
    · subst q
      rw [ha] at e1; cases e1
      have hj : j < H.length := by
        rw [← I.len]; exact (List.getElem?_eq_some_iff.mp ha).1
      rw [List.getElem?_set_self hj] at e2
      cases e2
      exact ho hr
    · rw [List.getElem?_set_ne (Ne.symm q)] at e2
      have hne : b ≠ a := fun z => by
        subst z
        have h1 := (List.getElem?_eq_some_iff.mp e1)
        have h2 := (List.getElem?_eq_some_iff.mp ha)
        obtain ⟨l1, v1⟩ := h1
        obtain ⟨l2, v2⟩ := h2
        exact q (nodup_inj I.nodup l1 l2 (v1.trans v2.symm))
      exact (I.objs j b o e1 e2).mono (fun ob z => hk b ob hne z) hr

theorem method_tail {A : Around} {E : Value → Shared → Prop} {s : Shared} {o : Expr} {name : Str} {apos pos : Pos} {env : Env} {ov : Value} {args : List Expr} {Q : Value → Shared → Prop} {f : Value} {first : List Value} {P' : Value × List Value → Shared → Prop}
    (hp : args.all plainE = true) (hn : args.length < 30) (hl : (apos.endLine == pos.line) = true)
    (hm : ∀ pl, wpAny (model G.prog G.w) A (getMethod ov name pl) (fun r s' => r = (f, first) ∧ s' = s) E s)
    (h : wpAny (model G.prog G.w) A (callWith pos f first (backTo pos (starEach args env)) []) Q E s) :
    wpAny (model G.prog G.w) A (methodCall o name apos pos env ov (args.length + ([] : List Keyword).length) (backTo pos (starEach args env)) (backToKw pos (keywordEach [] env))) Q E s := by
  obtain ⟨ha1, ha2⟩ := args_plain (env := env) (pos := pos) hp
  have hfew : methodCallForm (args.length + ([] : List Keyword).length) (backTo pos (starEach args env)) (backToKw pos (keywordEach [] env)) = true := by
    unfold methodCallForm
    rw [ha2]
    have e1 : (backToKw pos (keywordEach [] env)) = [] := rfl
    rw [e1]
    simp; omega
  unfold methodCall calleeOf methodCallPos
  rw [hfew]
  simp only [if_true, Bool.not_true, hl, Bool.or_true]
  refine wpAny_bind (wpAny_holding (wpAny_mono (hm _) (fun r s' h' => ?_) fun _ _ y => y))
  obtain ⟨rfl, rfl⟩ := h'
  exact wpAny_bind (wpAny_pure h)

/-- a thing is put to the list's end -/
theorem append_ok {A : Around} {E : Value → Shared → Prop} {H : Hp} {s : Shared} {μ : List Addr} {a : Addr} {i : Nat} {ls : List D} {v : Value} {d : D} (I : Inv G l μ H s) (hμ : μ[i]? = some a) (hH : H[i]? = some (.lst ls)) (r : Rep s.heap μ v d) (hz : ls.length < 16777216) :
    wpAny (model G.prog G.w) A (call (.builtin "list.append") [.ref a, v]) (fun r s' => r = .none ∧ Inv G l μ (H.set i (.lst (ls ++ [d]))) s' ∧ Ext true [] s.heap μ s'.heap μ) E s := by
  obtain ⟨vs₁, n₁, e₁, z₁, rs⟩ := I.objs i a _ hμ hH
  refine call_meets PySem.F.slot_list_append ⟨_, e₁, rfl⟩ PySem.F.entry_list_append (PySem.F.args_list_append_2 _ _) (list_append a vs₁.toArray n₁ v (by simpa using z₁)) ⟨e₁, rfl, ?_⟩
  have eu : (s.heap.update a (Obj.mapSeq fun x => x.push v)).get? a = some (listO (vs₁ ++ [v]) (n₁ + 1)) := by
    rw [Heap.get?_update_self _ e₁ rfl]
    simp [Obj.mapSeq]
  refine I.setObj (o' := .lst (ls ++ [d])) (tk := s.toks) hμ (fun b o hb e => (Heap.get?_update_ne _ _ _ _ hb).trans e) ⟨_, eu⟩ fun hr => ⟨_, _, eu, ?_, (rs.mono hr).append (.cons (hr _ _ r) .nil)⟩
  rw [List.length_append, rs.length, sizeLine_eq]; exact hz

theorem get_ok {A : Around} {E : Value → Shared → Prop} {H : Hp} {s s₀ : Shared} {μ μ₀ : List Addr} {Q : D → Hp → Prop} {a : Addr} {i : Nat} {es : List (Int × D)} {j : Int} {d : D} {v1 v2 : Value} (I : Inv G l μ H s) (x : Ext true [] s₀.heap μ₀ s.heap μ) (hμ : μ[i]? = some a) (hH : H[i]? = some (.dic es))
    (r1 : Rep s.heap μ v1 (.int j)) (r2 : Rep s.heap μ v2 d) (q : Q ((es.lookup j).getD d) H) : wpAny (model G.prog G.w) A (call (.builtin "dict.get") [.ref a, v1, v2]) (EvP G l μ₀ s₀ Q) E s := by
  obtain ⟨kvs, e, g1, g2, hsm⟩ := I.objs i a _ hμ hH
  obtain ⟨t, rfl⟩ := r1.inv
  have e := e G.prog G.w
  refine call_meetsIn PySem.F.slot_dict_get e.typeIs PySem.F.entry_dict_get (PySem.F.args_dict_get_3 _ _ _) (meets_dict_get_default (PySem.intKind G.prog G.w) a (k := j) (by simp [PySem.intKind, Value.isInt]) hsm _) ⟨_, e.mapOf, ?_⟩
  exact ⟨μ, _, _, I.toks _, x, lookup_rep g1 g2 r2, q⟩

theorem cm_inst (P : POk G k p) {A : Around} {env : Env} {loc : Loc} {Q : D → Hp → Prop} {X : Value → Hp → Prop} {H₁ : Hp} {s s₁ : Shared} {μ μ₁ : List Addr} {ov : Value} {C : Addr} {i : Nat} {o : Expr} {name : Str} {apos pos : Pos} {args : List Expr} (hA : AOk A l k) (hargs : SEs G l k p args)
    (hp : args.all plainE = true) (hn : args.length < 30) (hl : (apos.endLine == pos.line) = true) (x₁ : Ext true [] s.heap μ s₁.heap μ₁) (I₁ : Inv G l μ₁ H₁ s₁) (F₁ : Fok G env loc μ₁ s₁.heap) (r₁ : Rep s₁.heap μ₁ ov (.inst C i))
    (q₁ : (∃ fs, H₁[i]? = some (.dict fs) ∧ getL name fs = none) ∧ ∃ f, p.meth C name = some f ∧ awEs p (kcOf env.scope.names) args loc H₁ (fun ds H₂ => p.cw f (.inst C i :: ds) H₂ Q X) X) :
    wpAny (model G.prog G.w) A (methodCall o name apos pos env ov (args.length + ([] : List Keyword).length) (backTo pos (starEach args env)) (backToKw pos (keywordEach [] env))) (EvP G l μ s Q) (EvX G l μ s X) s₁ := by
  obtain ⟨⟨fs, hH, hg⟩, f, hm, h₂⟩ := q₁
  obtain ⟨m1, m2, m3, m4⟩ := P.meth C name f hm
  obtain ⟨x, dx, od, es, ep, m, rfl, _, _, _, hd, hk, hf, IA, hmm⟩ := I₁.inst r₁ hH
  have hno : m name = none := by have := hmm name; rw [hg] at this; exact this
  refine method_tail (P' := fun _ _ => True) hp hn hl (f := .ref f) (first := [.ref x]) (fun pl => method_fn (I₁.K P) IA (plainGet_of m1).1 (plainGet_of m1).2 m2 (beq_iff_eq.mp m3) ?_ ⟨rfl, rfl⟩) ?_
  · show (lookIn name od).map _ = _
    rw [lookIn_ns hd hk ((hf name).trans hno)]; rfl
  · exact callWith_of (P := fun h => G.K.In h) (by rw [(args_plain hp).1]; rfl) (fun h X => keeps_K m4 h X) (evalArgs_all hp (hargs.go hA x₁ I₁ F₁ h₂ fun vs s₂ μ₂ H₂ ds I₂ x₂ y₂ r₂ _ q₂ => ⟨I₂.K P, call_ok P hA I₂ y₂ (.cons (r₁.ext x₂ OwnOk.nil) r₂) q₂⟩))

theorem cm_mref (P : POk G k p) {A : Around} {env : Env} {loc : Loc} {Q : D → Hp → Prop} {X : Value → Hp → Prop} {H₁ : Hp} {s s₁ : Shared} {μ μ₁ : List Addr} {ov : Value} {i : Nat} {o : Expr} {name : Str} {apos pos : Pos} {args : List Expr} (hA : AOk A l k) (hargs : SEs G l k p args)
    (hp : args.all plainE = true) (hn : args.length < 30) (hl : (apos.endLine == pos.line) = true) (x₁ : Ext true [] s.heap μ s₁.heap μ₁) (I₁ : Inv G l μ₁ H₁ s₁) (F₁ : Fok G env loc μ₁ s₁.heap) (r₁ : Rep s₁.heap μ₁ ov (.mref i))
    (q₁ : if name = Str.ofString "get" then (∃ es, H₁[i]? = some (.dic es)) ∧ args.length = 2 ∧ awEs p (kcOf env.scope.names) args loc H₁ (fun ds H₂ => ∃ es k d, H₂[i]? = some (.dic es) ∧ ds = [.int k, d] ∧ Q ((es.lookup k).getD d) H₂) X else
        name = Str.ofString "append" ∧ (∃ l, H₁[i]? = some (.lst l)) ∧ args.length = 1 ∧ awEs p (kcOf env.scope.names) args loc H₁ (fun ds H₂ => ∃ l d, H₂[i]? = some (.lst l) ∧ ds = [d] ∧ l.length < 16777216 ∧ Q .none (H₂.set i (.lst (l ++ [d])))) X) :
    wpAny (model G.prog G.w) A (methodCall o name apos pos env ov (args.length + ([] : List Keyword).length) (backTo pos (starEach args env)) (backToKw pos (keywordEach [] env))) (EvP G l μ s Q) (EvX G l μ s X) s₁ := by
  obtain ⟨a, rfl, hμ⟩ := r₁.inv
  by_cases hget : name = Str.ofString "get"
  · subst hget
    rw [if_pos rfl] at q₁
    obtain ⟨⟨l₀, hl₀⟩, _, h₂⟩ := q₁
    obtain ⟨kvs₀, e₀, _⟩ := I₁.objs i a _ hμ hl₀
    have e₀ := e₀ G.prog G.w
    refine method_tail (P' := fun _ _ => True) hp hn hl (f := .builtin "dict.get") (first := [.ref a]) (fun pl => getMethod_builtin e₀.typeIs PySem.F.plainAttrs_dict PySem.F.slot_dict_get PySem.F.type_dict_get e₀.mapOf.noDict ⟨rfl, rfl⟩)
      (callWith_builtin (args_plain hp).1 (evalArgs_all hp (hargs.go hA x₁ I₁ F₁ h₂ fun vs s₂ μ₂ H₂ ds I₂ x₂ y₂ r₂ _ q₂ => ?_)))
    obtain ⟨es₂, i₂, d₂, hl₂, rfl, q⟩ := q₂
    obtain ⟨v1, vs, rfl, ri, r₂⟩ := r₂.inv
    obtain ⟨v2, vs, rfl, rd, r₂⟩ := r₂.inv
    obtain rfl := r₂.inv
    exact get_ok I₂ y₂ (x₂.at hμ) hl₂ ri rd q
  · rw [if_neg hget] at q₁
    obtain ⟨rfl, ⟨l₀, hl₀⟩, _, h₂⟩ := q₁
    obtain ⟨vs₀, n₀, e₀, _⟩ := I₁.objs i a _ hμ hl₀
    refine method_tail (P' := fun _ _ => True) hp hn hl (f := .builtin "list.append") (first := [.ref a]) (fun pl => getMethod_builtin ⟨_, e₀, rfl⟩ PySem.F.plainAttrs_list PySem.F.slot_list_append PySem.F.type_list_append (fun b hb => by cases hb; exact ⟨_, e₀, rfl⟩) ⟨rfl, rfl⟩)
      (callWith_builtin (args_plain hp).1 (evalArgs_all hp (hargs.go hA x₁ I₁ F₁ h₂ fun vs s₂ μ₂ H₂ ds I₂ x₂ y₂ r₂ _ q₂ => ?_)))
    obtain ⟨l₂, d, hl₂, rfl, hz, q⟩ := q₂
    obtain ⟨v, vs, rfl, rd, r₂⟩ := r₂.inv
    obtain rfl := r₂.inv
    refine wpAny_mono (append_ok I₂ (x₂.at hμ) hl₂ rd hz) (fun r s₃ h₃ => ?_) fun _ _ y => y
    obtain ⟨rfl, I₃, x₃⟩ := h₃
    exact ⟨μ₂, _, _, I₃, y₂.trans x₃, .none, q⟩

theorem se_CallMethod (P : POk G k p) {o : Expr} {name : Str} {apos pos : Pos} {args : List Expr} (ho : SE G l k p o) (hargs : SEs G l k p args) : SE G l k p (.Call (.Attribute o name apos) args [] pos) := by
  intro A env loc H Q X s μ hA I F h
  obtain ⟨hc, h⟩ := h
  obtain ⟨hc, hl⟩ := Bool.and_eq_true_iff.mp hc
  obtain ⟨hc, hn⟩ := Bool.and_eq_true_iff.mp hc
  obtain ⟨hb, hp⟩ := Bool.and_eq_true_iff.mp hc
  rw [arm_eval_Call, attrBase_plain hb]
  refine wpAny_bind (ho.go hA Ext.refl0 I F h fun ov s₁ μ₁ H₁ a I₁ x₁ _ F₁ r₁ q₁ => wpAny_bind (wpAny_standAt ?_))
  cases a with
  | inst C i => exact cm_inst P hA hargs hp (of_decide_eq_true hn) hl x₁ I₁ F₁ r₁ q₁
  | mref i => exact cm_mref P hA hargs hp (of_decide_eq_true hn) hl x₁ I₁ F₁ r₁ q₁
  | _ => exact q₁.elim
end

end YV
end

section
set_option autoImplicit false
set_option linter.unusedVariables false
set_option maxRecDepth 10000
namespace YV
open PySem PySem.Calls PyProof.Rows PySem.W

theorem getL_setL {x y : Str} {d : D} {loc : Loc} : getL y (setL x d loc) = if y = x then some d else getL y loc := by
  induction loc with
  | nil =>
    show (if x = y then some d else none) = _
    by_cases h : y = x
    · rw [if_pos h, if_pos h.symm]
    · rw [if_neg h, if_neg (Ne.symm h)]; rfl
  | cons q r ih =>
    show getL y (if q.1 = x then (q.1, d) :: r else q :: setL x d r) = if y = x then some d else if q.1 = y then some q.2 else getL y r
    by_cases hz : q.1 = x
    · rw [if_pos hz]
      show (if q.1 = y then some d else getL y r) = _
      by_cases h : q.1 = y
      · rw [if_pos h, if_pos (h.symm.trans hz)]
      · rw [if_neg h, if_neg (fun z => h (hz.trans z.symm)), if_neg h]
    · rw [if_neg hz]
      show (if q.1 = y then some q.2 else getL y (setL x d r)) = _
      by_cases h : q.1 = y
      · rw [if_pos h, if_neg (fun z => hz (h.trans z)), if_pos h]
      · rw [if_neg h, ih, if_neg h]

section
variable {G : Gl} {l : List Env} {k : Nat} {p : Pg}

theorem OwnOk.ns {h : Heap} {a : Addr} {m : Str → Option Value} (hn : h.Ns a m) : OwnOk [a] h := fun b hb o ho => by
  obtain ⟨o', es, ep, h1, h2, _⟩ := hn
  rw [List.mem_singleton.mp hb, h1] at ho; cases ho
  exact ⟨(fun _ _ q => by rw [h2] at q; cases q), (fun q => by rw [h2] at q; cases q), fun _ q => by rw [h2] at q; cases q⟩
theorem OwnOk.cell {h : Heap} {a : Addr} {v : Option Value} (hn : h.IsCell a v) : OwnOk [a] h := fun b hb o ho => by
  obtain ⟨o', h1, h2⟩ := hn
  rw [List.mem_singleton.mp hb, h1] at ho; cases ho
  exact ⟨(fun _ _ q => by rw [h2] at q; cases q), (fun q => by rw [h2] at q; cases q), fun _ q => by rw [h2] at q; cases q⟩

/-- one thing of the frame's own is changed -/
theorem Inv.setOwn {μ : List Addr} {H : Hp} {s : Shared} (I : Inv G l μ H s) {a : Addr} {h' : Heap} {tk : Nat} (hm : a ∉ μ) (hb : G.base.get? a = none) (hs : Heap.SameBut a s.heap h') (hn : ∃ o, h'.get? a = some o ∧ ∀ vs, o.data ≠ .fields vs) (ok : OwnOk [a] s.heap) (hfd : (∃ o es n, h'.get? a = some o ∧ o.data = .dict es n) ∨ ∃ v, s.heap.IsCell a v) :
    Inv G l μ H { s with heap := h', toks := tk } ∧ Ext true [a] s.heap μ h' μ := by
  have hx : Ext true [a] s.heap μ h' μ := Ext.of_extBut hs.extBut hm
  refine ⟨⟨fun b o e => hs.extBut b o (fun q => by rw [q, hb] at e; cases e) (I.stays b o e), I.gens, I.os, ?_, I.fresh, I.nodup, I.apart, fun env he L hL => ?_, I.len, fun i b o e1 e2 => ?_⟩, hx⟩
  · have gen : ∀ l' : List Env, s.heap.FunFrames G.base l' → h'.FunFrames G.base l' := by
      intro l'
      induction l' with
      | nil => intro _; trivial
      | cons env r ih =>
        intro hf
        obtain ⟨k1, ⟨L, o, k2, k3, k4, k5⟩, k6⟩ := hf
        refine ⟨k1, ?_, ih k6⟩
        by_cases q : L = a
        · subst q
          obtain ⟨o', h1, h2⟩ := hn
          exact ⟨L, o', k2, k3, h1, h2⟩
        · exact ⟨L, o, k2, k3, hs.extBut L o q k4, k5⟩
    exact gen l I.frames
  · obtain ⟨o, es, n, h1, h2⟩ := I.fd env he L hL
    by_cases q : L = a
    · subst q
      rcases hfd with h | ⟨v, o', g1, g2⟩
      · exact h
      · rw [h1] at g1; cases g1; rw [h2] at g2; cases g2
    · exact ⟨o, es, n, hs.extBut L o q h1, h2⟩
  · exact (I.objs i b o e1 e2).mono (fun ob q => hs.extBut b ob (fun z => hm (z ▸ List.mem_of_getElem? e1)) q) fun _ _ r => r.ext hx ok

theorem mem_of_lookup : ∀ {l : List (Str × Addr)} {x : Str} {c : Addr}, l.lookup x = some c → (x, c) ∈ l
  | [], _, _, h => by cases h
  | (y, b) :: r, x, c, h => by
    rw [List.lookup_cons] at h
    cases hq : x == y with
    | true => rw [hq] at h; cases h; rw [beq_iff_eq.mp hq]; exact .head _
    | false => rw [hq] at h; exact .tail _ (mem_of_lookup h)

theorem Fok.own {env : Env} {loc : Loc} {H : Hp} {s : Shared} {μ : List Addr} (F : Fok G env loc μ s.heap) (I : Inv G l μ H s) : OwnOk (own env) s.heap ∧ ∀ a ∈ own env, a ∉ μ := by
  refine ⟨fun a ha => ?_, fun a ha => ?_⟩
  · rcases List.mem_cons.mp ha with rfl | ha
    · obtain ⟨m, hn, _⟩ := F.ns
      exact OwnOk.ns hn _ (.head _)
    · obtain ⟨q, hq, rfl⟩ := List.mem_map.mp ha
      obtain ⟨⟨w, hc⟩, _⟩ := F.cellAll q hq
      exact OwnOk.cell hc _ (.head _)
  · rcases List.mem_cons.mp ha with rfl | ha
    · exact F.notMut
    · obtain ⟨q, hq, rfl⟩ := List.mem_map.mp ha
      obtain ⟨⟨w, hc⟩, _⟩ := F.cellAll q hq
      exact I.cell _ _ hc

/-- a name of the frame's own is bound -/
theorem store_loc {A : Around} {env : Env} {loc : Loc} {H : Hp} {s : Shared} {μ : List Addr} {E : Value → Shared → Prop} {x : Str} {v : Value} {d : D} (I : Inv G l μ H s) (F : Fok G env loc μ s.heap) (r : Rep s.heap μ v d)
    (hk : env.kindOf x = some .local) :
    wpAny (model G.prog G.w) A (storeName env x v) (fun _ s' => Inv G l μ H s' ∧ Ext true [env.locals] s.heap μ s'.heap μ ∧ Fok G env (setL x d loc) μ s'.heap) E s := by
  obtain ⟨ok, ap⟩ := F.own I
  obtain ⟨m, hn, hm⟩ := F.ns
  refine wpAny_storeName_local hk hn (fun h' hn' hs => ?_) (by rw [F.kind]; rfl)
  obtain ⟨I', x'⟩ := I.setOwn (tk := s.toks + 1) F.notMut F.fresh hs (by obtain ⟨o, es, ep, h1, h2, _⟩ := hn'; exact ⟨o, h1, fun vs q => by rw [h2] at q; cases q⟩) (OwnOk.ns hn) (.inl (by obtain ⟨o, es, ep, h1, h2, _⟩ := hn'; exact ⟨o, es, ep, h1, h2⟩))
  refine ⟨I', x', ?_⟩
  refine ⟨F.kind, F.dbg, F.cld, F.glob, F.blt, ⟨_, hn', fun z e ez kz => ?_⟩, fun z e ez kz => ?_, F.cellAt, fun q hq => ?_, F.cellApart, F.fresh, F.notMut⟩
  · rw [getL_setL] at ez
    by_cases hz : z = x
    · subst hz
      rw [if_pos rfl] at ez; cases ez
      exact ⟨v, by simp, r.ext x' (OwnOk.ns hn)⟩
    · rw [if_neg hz] at ez
      obtain ⟨w, h1, h2⟩ := hm z e ez kz
      exact ⟨w, by simp [hz]; exact h1, h2.ext x' (OwnOk.ns hn)⟩
  · have hz : z ≠ x := fun q => by rw [q, hk] at kz; rcases kz with q | q <;> cases q
    rw [getL_setL, if_neg hz] at ez
    obtain ⟨c, w, h1, ⟨o, h2, h3⟩, h4⟩ := F.cell z e ez kz
    refine ⟨c, w, h1, ⟨o, hs.extBut c o (fun q => ?_) h2, h3⟩, h4.ext x' (OwnOk.ns hn)⟩
    obtain ⟨o', es, ep, g1, g2, _⟩ := hn
    rw [q, g1] at h2; cases h2; rw [g2] at h3; cases h3
  · obtain ⟨⟨w, o, h2, h3⟩, hb⟩ := F.cellAll q hq
    refine ⟨⟨w, o, hs.extBut _ o (fun z => ?_) h2, h3⟩, hb⟩
    obtain ⟨o', es, ep, g1, g2, _⟩ := hn
    rw [z, g1] at h2; cases h2; rw [g2] at h3; cases h3

theorem store_ok {A : Around} {env : Env} {loc : Loc} {H : Hp} {s : Shared} {μ : List Addr} {E : Value → Shared → Prop} {x : Str} {v : Value} {d : D} (I : Inv G l μ H s) (F : Fok G env loc μ s.heap) (r : Rep s.heap μ v d)
    (hk : env.kindOf x = some .local ∨ env.kindOf x = some .cell) :
    wpAny (model G.prog G.w) A (storeName env x v) (fun _ s' => Inv G l μ H s' ∧ Ext true (own env) s.heap μ s'.heap μ ∧ Fok G env (setL x d loc) μ s'.heap) E s := by
  obtain ⟨ok, ap⟩ := F.own I
  rcases hk with hk | hk
  · exact wpAny_mono (store_loc I F r hk) (fun _ s' h' => ⟨h'.1, h'.2.1.owned (fun a ha => by rw [List.mem_singleton.mp ha]; exact .head _) ap, h'.2.2⟩) fun _ _ y => y
  · obtain ⟨m, hn, hm⟩ := F.ns
    obtain ⟨c, hc⟩ := F.cellAt x (.inl hk)
    obtain ⟨⟨w, hw⟩, hb⟩ := F.cellAll _ (mem_of_lookup hc)
    refine wpAny_storeName_cell F.kind hk hc hw fun h' hv' hs => ?_
    have hcm := I.cell c w hw
    obtain ⟨I', x'⟩ := I.setOwn (tk := s.toks) hcm hb hs (by obtain ⟨o, h1, h2⟩ := hv'; exact ⟨o, h1, fun vs q => by rw [h2] at q; cases q⟩) (OwnOk.cell hw) (.inr ⟨w, hw⟩)
    have y := x'.owned (own' := own env) (fun a ha => by rw [List.mem_singleton.mp ha]; exact .tail _ (List.mem_map.mpr ⟨_, mem_of_lookup hc, rfl⟩)) ap
    have hne : env.locals ≠ c := fun q => by
      obtain ⟨o', es, ep, g1, g2, _⟩ := hn
      obtain ⟨o, h1, h2⟩ := hw
      rw [q, h1] at g1; cases g1; rw [h2] at g2; cases g2
    refine ⟨I', y, ?_⟩
    refine ⟨F.kind, F.dbg, F.cld, F.glob, F.blt, ⟨m, hn.sameBut hs hne, fun z e ez kz => ?_⟩, fun z e ez kz => ?_, F.cellAt, fun q hq => ?_, F.cellApart, F.fresh, F.notMut⟩
    · have hz : z ≠ x := fun q => by rw [q, hk] at kz; cases kz
      rw [getL_setL, if_neg hz] at ez
      obtain ⟨w', h1, h2⟩ := hm z e ez kz
      exact ⟨w', h1, h2.ext x' (OwnOk.cell hw)⟩
    · rw [getL_setL] at ez
      by_cases hz : z = x
      · subst hz
        rw [if_pos rfl] at ez; cases ez
        exact ⟨c, v, hc, hv', r.ext x' (OwnOk.cell hw)⟩
      · rw [if_neg hz] at ez
        obtain ⟨c', w', h1, ⟨o, h2, h3⟩, h4⟩ := F.cell z e ez kz
        have hcc : c' ≠ c := fun q => hz (F.cellApart z x c' h1 (by rw [q]; exact hc))
        exact ⟨c', w', h1, ⟨o, hs.extBut c' o hcc h2, h3⟩, h4.ext x' (OwnOk.cell hw)⟩
    · obtain ⟨⟨w', o, h2, h3⟩, hb'⟩ := F.cellAll q hq
      by_cases hqc : q.2 = c
      · rw [hqc]; exact ⟨⟨_, hv'⟩, hb⟩
      · exact ⟨⟨w', o, hs.extBut _ o hqc h2, h3⟩, hb'⟩
end

end YV
end

section
set_option autoImplicit false
set_option linter.unusedVariables false
set_option maxRecDepth 10000
namespace YV
open PySem PySem.Calls PyProof.Rows PySem.W

theorem Rep.unders {h : Heap} {μ : List Addr} : (∀ {v : Value} {d : D}, Rep h μ v d → YV.below μ.length d = true) ∧ ∀ {vs : List Value} {ds : List D}, Reps h μ vs ds → YV.belows μ.length ds = true := by
  have at' : ∀ {i : Nat} {a : Addr}, μ[i]? = some a → decide (i < μ.length) = true := fun e => decide_eq_true (List.getElem?_eq_some_iff.mp e).1
  have cons : ∀ {v : Value} {d : D} {vs : List Value} {ds : List D}, Rep h μ v d → Reps h μ vs ds → YV.below μ.length d = true → YV.belows μ.length ds = true → YV.belows μ.length (d :: ds) = true := fun _ _ h1 h2 => Bool.and_eq_true_iff.mpr ⟨h1, h2⟩
  constructor
  · intro v d r
    exact Rep.rec (motive_1 := fun v d _ => YV.below μ.length d = true) (motive_2 := fun vs ds _ => YV.belows μ.length ds = true) rfl (fun _ => rfl) (fun _ _ => rfl) (fun _ _ => rfl) (fun _ _ _ _ r => r) (fun _ _ _ _ r => r) at' (fun _ _ e => at' e) (fun _ => rfl) (fun _ _ _ => rfl) (fun _ => rfl) (fun _ => rfl) rfl cons r
  · intro v d r
    exact Reps.rec (motive_1 := fun v d _ => YV.below μ.length d = true) (motive_2 := fun vs ds _ => YV.belows μ.length ds = true) rfl (fun _ => rfl) (fun _ _ => rfl) (fun _ _ => rfl) (fun _ _ _ _ r => r) (fun _ _ _ _ r => r) at' (fun _ _ e => at' e) (fun _ => rfl) (fun _ _ _ => rfl) (fun _ => rfl) (fun _ => rfl) rfl cons r
theorem Rep.under {h : Heap} {μ : List Addr} {v : Value} {d : D} (r : Rep h μ v d) : YV.below μ.length d = true := Rep.unders.1 r
theorem Reps.under {h : Heap} {μ : List Addr} {vs : List Value} {ds : List D} (r : Reps h μ vs ds) : YV.belows μ.length ds = true := Rep.unders.2 r

theorem Rep.pops {h : Heap} {μ : List Addr} {a : Addr} : (∀ {v : Value} {d : D}, Rep h (μ ++ [a]) v d → YV.below μ.length d = true → Rep h μ v d) ∧ ∀ {vs : List Value} {ds : List D}, Reps h (μ ++ [a]) vs ds → YV.belows μ.length ds = true → Reps h μ vs ds := by
  have nm : ∀ {b : Addr}, b ∉ μ ++ [a] → b ∉ μ := fun hμ q => hμ (List.mem_append_left _ q)
  have at' : ∀ {i : Nat} {b : Addr}, (μ ++ [a])[i]? = some b → decide (i < μ.length) = true → μ[i]? = some b := fun e hb => (List.getElem?_append_left (of_decide_eq_true hb)).symm.trans e
  have cons : ∀ {v : Value} {d : D} {vs : List Value} {ds : List D}, Rep h (μ ++ [a]) v d → Reps h (μ ++ [a]) vs ds → (YV.below μ.length d = true → Rep h μ v d) → (YV.belows μ.length ds = true → Reps h μ vs ds) → YV.belows μ.length (d :: ds) = true → Reps h μ (v :: vs) (d :: ds) := fun _ _ i1 i2 hb => .cons (i1 (Bool.and_eq_true_iff.mp hb).1) (i2 (Bool.and_eq_true_iff.mp hb).2)
  constructor
  · intro v d r
    exact Rep.rec (motive_1 := fun v d _ => YV.below μ.length d = true → Rep h μ v d) (motive_2 := fun vs ds _ => YV.belows μ.length ds = true → Reps h μ vs ds) (fun _ => .none) (fun b _ => .bool b) (fun i t _ => .int i t) (fun i t _ => .str i t) (fun e m z _ r hb => .tup e (nm m) z (r hb)) (fun e m z _ r hb => .lst e (nm m) z (r hb))
      (fun e hb => .mref (at' e hb)) (fun e m i hb => .inst e (nm m) (at' i hb)) (fun b _ => .glob b) (fun e m k _ => .rng e (nm m) k) (fun b _ => .ty b) (fun b _ => .bi b) (fun _ => .nil) cons r
  · intro v d r
    exact Reps.rec (motive_1 := fun v d _ => YV.below μ.length d = true → Rep h μ v d) (motive_2 := fun vs ds _ => YV.belows μ.length ds = true → Reps h μ vs ds) (fun _ => .none) (fun b _ => .bool b) (fun i t _ => .int i t) (fun i t _ => .str i t) (fun e m z _ r hb => .tup e (nm m) z (r hb)) (fun e m z _ r hb => .lst e (nm m) z (r hb))
      (fun e hb => .mref (at' e hb)) (fun e m i hb => .inst e (nm m) (at' i hb)) (fun b _ => .glob b) (fun e m k _ => .rng e (nm m) k) (fun b _ => .ty b) (fun b _ => .bi b) (fun _ => .nil) cons r
theorem Rep.pop {h : Heap} {μ : List Addr} {a : Addr} {v : Value} {d : D} (r : Rep h (μ ++ [a]) v d) (hb : YV.below μ.length d = true) : Rep h μ v d := Rep.pops.1 r hb
theorem Reps.pop {h : Heap} {μ : List Addr} {a : Addr} {vs : List Value} {ds : List D} (r : Reps h (μ ++ [a]) vs ds) (hb : YV.belows μ.length ds = true) : Reps h μ vs ds := Rep.pops.2 r hb

/-- every datum of the heap lies below its length -/
noncomputable def HBelow (n : Nat) (H : Hp) : Prop := ∀ (i : Nat) (o : AObj), H[i]? = some o → match o with | .lst ds => belows n ds = true | .dict fs => ∀ x d, getL x fs = some d → below n d = true | .dic es => belows n (es.map (·.2)) = true

section
variable {G : Gl} {l : List Env} {k : Nat} {p : Pg}

theorem Inv.hbelow {μ : List Addr} {H : Hp} {s : Shared} (I : Inv G l μ H s) : HBelow H.length H := fun i o e => by
  have hi : i < μ.length := by rw [I.len]; exact (List.getElem?_eq_some_iff.mp e).1
  have x := I.objs i μ[i] o (by simp [hi]) e
  cases o with
  | lst ds => obtain ⟨vs, n, _, _, r⟩ := x; rw [← I.len]; exact r.under
  | dict fs =>
    obtain ⟨m, _, r⟩ := x
    intro y d hd
    have := r y
    rw [hd] at this
    obtain ⟨v, _, q⟩ := this
    rw [← I.len]; exact q.under
  | dic es => obtain ⟨kvs, _, _, r, _⟩ := x; show belows _ _ = true; rw [← I.len]; exact r.under

/-- the last mutable list is frozen -/
theorem Inv.pop {μ : List Addr} {H : Hp} {s : Shared} {a : Addr} {ds : List D} (I : Inv G l (μ ++ [a]) (H ++ [.lst ds]) s) (hH : HBelow H.length H) (hd : belows H.length ds = true) : Inv G l μ H s ∧ Rep s.heap μ (.ref a) (.lst ds) := by
  have len : μ.length = H.length := by have := I.len; simpa using this
  have hnd := List.nodup_append.mp I.nodup
  refine ⟨⟨I.stays, I.gens, I.os, I.frames, fun b hb => I.fresh b (List.mem_append_left _ hb), hnd.1, fun e he L hL q => I.apart e he L hL (List.mem_append_left _ q), I.fd, len, fun i b o e1 e2 => ?_⟩, ?_⟩
  · have hi : i < μ.length := (List.getElem?_eq_some_iff.mp e1).1
    have x := I.objs i b o (by rw [List.getElem?_append_left hi]; exact e1) (by rw [List.getElem?_append_left (by omega)]; exact e2)
    have hb := hH i o e2
    cases o with
    | lst es => obtain ⟨vs, n, g1, g2, g3⟩ := x; exact ⟨vs, n, g1, g2, g3.pop (by rw [len]; exact hb)⟩
    | dict fs =>
      obtain ⟨m, g1, g2⟩ := x
      refine ⟨m, g1, fun y => ?_⟩
      have := g2 y
      split at this
      · rename_i d hd
        obtain ⟨v, q1, q2⟩ := this
        exact ⟨v, q1, q2.pop (by rw [len]; exact hb y d hd)⟩
      · exact this
    | dic es => obtain ⟨kvs, g1, g2, g3, g4⟩ := x; exact ⟨kvs, g1, g2, g3.pop (by rw [len]; exact hb), g4⟩
  · have x := I.objs μ.length a (.lst ds) (by simp) (by rw [len]; simp)
    obtain ⟨vs, n, g1, g2, g3⟩ := x
    refine .lst g1 (fun q => ?_) g2 (g3.pop (by rw [len]; exact hd))
    exact hnd.2.2 a q a (by simp) rfl

theorem Ext.pop {full : Bool} {own : List Addr} {h h' : Heap} {μ : List Addr} {a : Addr} (x : Ext full own h μ h' (μ ++ [a])) : Ext full own h μ h' μ :=
  ⟨⟨[], by simp⟩, fun b hb => .inl hb, x.keep, x.dom, fun b hb q => x.apart b hb (List.mem_append_left _ q)⟩

/-- one thing that is of no account any more -/
theorem Inv.drop {μ : List Addr} {H : Hp} {s : Shared} (I : Inv G l μ H s) {a : Addr} {h' : Heap} (hm : a ∉ μ) (hb : G.base.get? a = none) (hf : ∀ env ∈ l, env.frame ≠ some a) (hs : Heap.ExtBut a s.heap h') (ok : OwnOk [a] s.heap) :
    Inv G l μ H { s with heap := h' } ∧ Ext true [a] s.heap μ h' μ := by
  have hx : Ext true [a] s.heap μ h' μ := Ext.of_extBut hs hm
  refine ⟨⟨fun b o e => hs b o (fun q => by rw [q, hb] at e; cases e) (I.stays b o e), I.gens, I.os, ?_, I.fresh, I.nodup, I.apart, (fun env he L hL => let ⟨o, es, n, h1, h2⟩ := I.fd env he L hL; ⟨o, es, n, hs L o (fun q => hf env he (by rw [hL, q])) h1, h2⟩), I.len, fun i b o e1 e2 => ?_⟩, hx⟩
  · have gen : ∀ l' : List Env, (∀ env ∈ l', env ∈ l) → s.heap.FunFrames G.base l' → h'.FunFrames G.base l' := by
      intro l'
      induction l' with
      | nil => intro _ _; trivial
      | cons env r ih =>
        intro hin hf'
        obtain ⟨k1, ⟨L, o, k2, k3, k4, k5⟩, k6⟩ := hf'
        exact ⟨k1, ⟨L, o, k2, k3, hs L o (fun q => hf env (hin env (.head _)) (by rw [k2, q])) k4, k5⟩, ih (fun e he => hin e (.tail _ he)) k6⟩
    exact gen l (fun _ h => h) I.frames
  · exact (I.objs i b o e1 e2).mono (fun ob q => hs b ob (fun z => hm (z ▸ List.mem_of_getElem? e1)) q) fun _ _ r => r.ext hx ok

theorem Src.self {A : Around} {E : Value → Shared → Prop} {s : Shared} {μ : List Addr} {H : Hp} {it : Addr} {i : Nat} {items : List D} {d : D} {Q : Value → Shared → Prop} (x : Src s.heap μ H it i items d) (h : Q (.ref it) s) :
    wpAny (model G.prog G.w) A (pyIter (.ref it)) Q E s := by
  cases x with
  | lst _ _ _ y => exact wpAny_pyIter_listiter y h
  | mlst _ _ y => exact wpAny_pyIter_listiter y h
  | tup _ _ _ y => exact wpAny_pyIter_tupleiter y h
  | rng _ y => exact wpAny_pyIter_rangeiter y h
  | str _ y => exact wpAny_pyIter_striter_ascii y h

theorem folded_plain {e : Expr} {env : Env} (h : plainE e = true) (x : Value) : foldedSetIterable e env x = pure x := by
  cases e <;> first | rfl | cases h

theorem Fok.congr {env : Env} {loc loc' : Loc} {μ : List Addr} {h : Heap} (F : Fok G env loc μ h) (e : ∀ y, getL y loc' = getL y loc) : Fok G env loc' μ h :=
  ⟨F.kind, F.dbg, F.cld, F.glob, F.blt, (let ⟨m, h1, h2⟩ := F.ns; ⟨m, h1, fun y d q => h2 y d (by rw [← e y]; exact q)⟩), fun y d q => F.cell y d (by rw [← e y]; exact q), F.cellAt, F.cellAll, F.cellApart, F.fresh, F.notMut⟩

theorem kcOf_relabel (scope : Scope) (env : Env) : kcOf (relabel scope env).names = kcOf scope.names := by
  funext x
  have gen : ∀ (names : List (Str × NameKind)),
      kcOf (names.map fun (n, k) => if (k == .free && env.scope.kind == .function && env.kindOf n == some .cell) then (n, .cell) else (n, k)) x = kcOf names x := by
    intro names
    induction names with
    | nil => rfl
    | cons q r ih =>
      obtain ⟨n, kd⟩ := q
      show kcOf ((if (kd == .free && env.scope.kind == .function && env.kindOf n == some .cell) = true then (n, NameKind.cell) else (n, kd)) :: _) x = kcOf ((n, kd) :: r) x
      by_cases hc : (kd == .free && env.scope.kind == .function && env.kindOf n == some .cell) = true
      · rw [if_pos hc]
        have : kd = .free := by simp only [Bool.and_eq_true] at hc; exact beq_iff_eq.mp hc.1.1
        subst this
        unfold kcOf at ih ⊢
        simp only [List.lookup_cons]
        cases hx : x == n with
        | true => rfl
        | false => exact ih
      · rw [if_neg hc]
        unfold kcOf at ih ⊢
        simp only [List.lookup_cons]
        cases hx : x == n with
        | true => rfl
        | false => exact ih
  exact gen scope.names

theorem getL_filter {P : Str → Bool} {y : Str} {loc : Loc} : getL y (loc.filter fun q => P q.1) = if P y = true then getL y loc else none := by
  induction loc with
  | nil => show none = if P y = true then none else none; rw [ite_self]
  | cons q r ih =>
    rw [List.filter_cons]
    show _ = if P y = true then (if q.1 = y then some q.2 else getL y r) else none
    by_cases hz : P q.1 = true
    · rw [if_pos hz]
      show (if q.1 = y then some q.2 else getL y _) = _
      by_cases h : q.1 = y
      · rw [if_pos h, ← h, if_pos hz, if_pos rfl]
      · rw [if_neg h, ih, if_neg h]
    · rw [if_neg hz, ih]
      by_cases h : q.1 = y
      · rw [← h, if_neg hz, if_neg hz]
      · rw [if_neg h]

theorem lookup_some_of_mem : ∀ {l : List (Str × Addr)} {x : Str} {c : Addr}, (x, c) ∈ l → (l.lookup x).isSome = true
  | (y, b) :: r, x, c, h => by
    rw [List.lookup_cons]
    cases hq : x == y with
    | true => rfl
    | false =>
      rcases List.mem_cons.mp h with q | q
      · cases q; simp at hq
      · exact lookup_some_of_mem q

theorem mem_of_lookupK : ∀ {l : List (Str × NameKind)} {x : Str} {c : NameKind}, l.lookup x = some c → (x, c) ∈ l
  | [], _, _, h => by cases h
  | (y, b) :: r, x, c, h => by
    rw [List.lookup_cons] at h
    cases hq : x == y with
    | true => rw [hq] at h; cases h; rw [beq_iff_eq.mp hq]; exact .head _
    | false => rw [hq] at h; exact .tail _ (mem_of_lookupK h)

theorem closure_loop {env : Env} : ∀ (names : List (Str × NameKind)) (cs₀ : List (Str × Addr)), (∀ q ∈ names, q.2 = .free → ∃ c, env.cells.lookup q.1 = some c) → (∀ q ∈ cs₀, env.cells.lookup q.1 = some q.2) →
    ∃ cl, (forIn names cs₀ fun x r => (match x with
      | (name, kind) => do
        let cs := r
        if (kind == NameKind.free) = true then do
          let __do_lift ← cellOf env name
          let cs := (name, __do_lift) :: cs
          pure (ForInStep.yield cs)
        else pure (ForInStep.yield cs) : Sem (ForInStep (List (Str × Addr))))) = pure cl ∧
      (∀ q ∈ cl, env.cells.lookup q.1 = some q.2) ∧ (∀ q ∈ cs₀, q ∈ cl) ∧ ∀ q ∈ names, q.2 = .free → (cl.lookup q.1).isSome = true
  | [], cs₀, _, h => ⟨cs₀, rfl, h, fun _ h => h, fun _ h => nomatch h⟩
  | (n, kd) :: r, cs₀, hf, h => by
    by_cases hk : kd = .free
    · subst hk
      obtain ⟨c, hc⟩ := hf _ (.head _) rfl
      obtain ⟨cl, e, h1, h2, h3⟩ := closure_loop r ((n, c) :: cs₀) (fun q hq => hf q (.tail _ hq)) (fun q hq => by
        rcases List.mem_cons.mp hq with rfl | hq
        · exact hc
        · exact h q hq)
      refine ⟨cl, ?_, h1, fun q hq => h2 q (.tail _ hq), fun q hq hk => ?_⟩
      · rw [List.forIn_cons]
        have e1 : cellOf env n = pure c := by unfold cellOf; rw [hc]
        simp only [beq_self_eq_true, if_true, e1]
        exact e
      · rcases List.mem_cons.mp hq with rfl | hq
        · exact lookup_some_of_mem (h2 _ (.head _))
        · exact h3 q hq hk
    · obtain ⟨cl, e, h1, h2, h3⟩ := closure_loop r cs₀ (fun q hq => hf q (.tail _ hq)) h
      refine ⟨cl, ?_, h1, h2, fun q hq hk' => ?_⟩
      · rw [List.forIn_cons]
        have hb : (kd == NameKind.free) = false := by simpa using hk
        simp only [hb, Bool.false_eq_true, if_false]
        exact e
      · rcases List.mem_cons.mp hq with rfl | hq
        · exact absurd hk' hk
        · exact h3 q hq hk'

/-- the cells that a comprehension's block takes along -/
theorem closure_ok {env : Env} {loc : Loc} {μ : List Addr} {h : Heap} (F : Fok G env loc μ h) {scope : Scope} (hf : freeOk (kcOf env.scope.names) scope.names = true) :
    ∃ cl, closureFor scope env = pure cl ∧ (∀ y, scope.names.lookup y = some .free → cl.lookup y = env.cells.lookup y) ∧ ∀ q ∈ cl, env.cells.lookup q.1 = some q.2 := by
  obtain ⟨cl, e, h1, _, h3⟩ := closure_loop (env := env) scope.names [] (fun q hq hk => by
    have := List.all_eq_true.mp hf q hq
    rw [hk] at this
    have hc : kcOf env.scope.names q.1 = some .cell := by simpa using this
    refine F.cellAt q.1 ?_
    unfold kcOf at hc
    cases hq' : env.scope.names.lookup q.1 with
    | none => rw [hq'] at hc; cases hc
    | some kd =>
      rw [hq'] at hc
      cases kd with
      | cell => exact .inl hq'
      | free => exact .inr hq'
      | _ => cases hc) (fun _ h => nomatch h)
  refine ⟨cl, ?_, fun y hy => ?_, h1⟩
  · have e' := congrArg (fun t : Sem (List (Str × Addr)) => t >>= fun cs => pure cs) e
    exact e'
  · have hs := h3 (y, .free) (mem_of_lookupK hy) rfl
    obtain ⟨c, hc⟩ := Option.isSome_iff_exists.mp hs
    rw [hc, h1 _ (mem_of_lookup hc)]
end

end YV
end

section
set_option autoImplicit false
set_option linter.unusedVariables false
set_option maxRecDepth 10000
namespace YV
open PySem PySem.Calls PyProof.Rows PySem.W

section
variable {G : Gl} {l : List Env} {k : Nat} {p : Pg}

theorem Fok.extOwn {env : Env} {loc : Loc} {μ μ' : List Addr} {h h' : Heap} {full : Bool} {ow : List Addr} (F : Fok G env loc μ h) (x : Ext full ow h μ h' μ') (ok : OwnOk ow h) (hL : env.locals ∉ ow) (hcs : ∀ q ∈ env.cells, q.2 ∉ ow) (hc : ∀ c v, h.IsCell c v → c ∉ μ) : Fok G env loc μ' h' where
  kind := F.kind
  dbg := F.dbg
  cld := F.cld
  glob := F.glob
  blt := F.blt
  ns := by
    obtain ⟨m, hn, hm⟩ := F.ns
    refine ⟨m, ns_slots hn fun o e => ?_, fun y d e k => ?_⟩
    · obtain ⟨o', es, ep, e', hd, _⟩ := hn
      rw [e] at e'; cases e'
      obtain ⟨sl, e2, _⟩ := x.keep _ _ e F.notMut hL (.inr fun vs q => by rw [hd] at q; cases q)
      exact ⟨sl, e2⟩
    · obtain ⟨v, e1, r⟩ := hm y d e k
      exact ⟨v, e1, r.ext x ok⟩
  cell := fun y d e k => by
    obtain ⟨c, v, e1, hv, r⟩ := F.cell y d e k
    have hcm := hc c _ hv
    obtain ⟨o, ho, hd⟩ := hv
    refine ⟨c, v, e1, ⟨o, x.solid ho hcm (hcs _ (mem_of_lookup e1)) (fun vs q => by rw [hd] at q; cases q) (fun es n q => by rw [hd] at q; cases q), hd⟩, r.ext x ok⟩
  cellAt := F.cellAt
  cellAll := fun y hy => by
    obtain ⟨⟨w, hv⟩, hb⟩ := F.cellAll y hy
    have hcm := hc _ _ hv
    obtain ⟨o, ho, hd⟩ := hv
    exact ⟨⟨w, o, x.solid ho hcm (hcs _ hy) (fun vs q => by rw [hd] at q; cases q) (fun es n q => by rw [hd] at q; cases q), hd⟩, hb⟩
  cellApart := F.cellApart
  fresh := F.fresh
  notMut := by
    obtain ⟨m, ⟨o, es, ep, ho, _⟩, _⟩ := F.ns
    exact x.notMem ho F.notMut

theorem chkD_refl (H : Hp) (d : D) : chkD H d H := by cases d <;> first | rfl | trivial
theorem chkD_app {H : Hp} {d : D} {o o' : AObj} (h : ∀ i, d = .mref i → i < H.length) : chkD (H ++ [o]) d (H ++ [o']) := by
  cases d with
  | mref i =>
    have := h i rfl
    show (H ++ [o'])[i]? = (H ++ [o])[i]?
    rw [List.getElem?_append_left this, List.getElem?_append_left this]
  | _ => trivial

/-- the block of a comprehension, at its start -/
theorem comp_fok {env : Env} {loc : Loc} {μ : List Addr} {h : Heap} (F : Fok G env loc μ h) {scope : Scope} {x : Str} {cl : List (Str × Addr)} {C : Addr} {m : Str → Option Value}
    (hc : compOk (kcOf env.scope.names) x scope = true) (hcl1 : ∀ y, scope.names.lookup y = some .free → cl.lookup y = env.cells.lookup y) (hcl2 : ∀ q ∈ cl, env.cells.lookup q.1 = some q.2)
    (hn : h.Ns C m) (hb : G.base.get? C = none) (hm : C ∉ μ) : Fok G (compEnvC scope cl C env) (loc.filter fun q => scope.names.lookup q.1 == some .free) μ h := by
  unfold compOk at hc
  simp only [Bool.and_eq_true] at hc
  obtain ⟨⟨⟨⟨⟨⟨hfree, hcell⟩, hkind⟩, hnames⟩, hx⟩, hdbg⟩, hcld⟩ := hc
  have lk : ∀ y, (compEnvC scope cl C env).kindOf y = some .cell ∨ (compEnvC scope cl C env).kindOf y = some .free → scope.names.lookup y = some .free := by
    intro y hy
    have h1 : kcOf (relabel scope env).names y = some .cell := by
      unfold kcOf
      rcases hy with q | q
      · rw [show (relabel scope env).names.lookup y = some .cell from q]
      · rw [show (relabel scope env).names.lookup y = some .free from q]
    rw [kcOf_relabel] at h1
    unfold kcOf at h1
    cases hq : scope.names.lookup y with
    | none => rw [hq] at h1; cases h1
    | some kd =>
      rw [hq] at h1
      cases kd with
      | cell =>
        have := List.all_eq_true.mp hcell _ (mem_of_lookupK hq)
        simp at this
      | free => rfl
      | _ => cases h1
  have none_of : ∀ y, scope.names.lookup y = none → (compEnvC scope cl C env).kindOf y = none := by
    intro y hy
    show (relabel scope env).names.lookup y = none
    have gen : ∀ names : List (Str × NameKind), names.lookup y = none → (names.map fun (n, k) => if (k == .free && env.scope.kind == .function && env.kindOf n == some .cell) then (n, NameKind.cell) else (n, k)).lookup y = none := by
      intro names
      induction names with
      | nil => intro _; rfl
      | cons q r ih =>
        obtain ⟨n, kd⟩ := q
        intro hq
        rw [List.lookup_cons] at hq
        show List.lookup y ((if (kd == .free && env.scope.kind == .function && env.kindOf n == some .cell) = true then (n, NameKind.cell) else (n, kd)) :: _) = none
        cases hyn : y == n with
        | true => rw [hyn] at hq; cases hq
        | false =>
          rw [hyn] at hq
          split <;> (rw [List.lookup_cons, hyn]; exact ih hq)
    exact gen _ hy
  have inEnv : ∀ y, scope.names.lookup y = some .free → env.kindOf y = some .cell ∨ env.kindOf y = some .free := by
    intro y hy
    have := List.all_eq_true.mp hfree _ (mem_of_lookupK hy)
    have hc : kcOf env.scope.names y = some .cell := by simpa using this
    unfold kcOf at hc
    cases hq' : env.scope.names.lookup y with
    | none => rw [hq'] at hc; cases hc
    | some kd =>
      rw [hq'] at hc
      cases kd with
      | cell => exact .inl hq'
      | free => exact .inr hq'
      | _ => cases hc
  refine ⟨beq_iff_eq.mp hkind, none_of _ (beq_iff_eq.mp hdbg), none_of _ (beq_iff_eq.mp hcld), F.glob, F.blt, ⟨m, hn, fun y d e hk => ?_⟩, fun y d e hk => ?_, fun y hk => ?_, fun q hq => ?_, fun y z c e1 e2 => ?_, hb, hm⟩
  · rw [getL_filter (P := fun z => scope.names.lookup z == some .free)] at e
    split at e
    · rename_i hp
      have h1 : kcOf (relabel scope env).names y = some .loc := by
        unfold kcOf; rw [show (relabel scope env).names.lookup y = some .local from hk]
      rw [kcOf_relabel] at h1
      unfold kcOf at h1
      rw [beq_iff_eq.mp hp] at h1; cases h1
    · cases e
  · have hy := lk y hk
    rw [getL_filter (P := fun z => scope.names.lookup z == some .free), if_pos (by rw [hy]; rfl)] at e
    obtain ⟨c, v, h1, h2, h3⟩ := F.cell y d e (inEnv y hy)
    exact ⟨c, v, (hcl1 y hy).trans h1, h2, h3⟩
  · obtain ⟨c, hc⟩ := F.cellAt y (inEnv y (lk y hk))
    exact ⟨c, (hcl1 y (lk y hk)).trans hc⟩
  · exact F.cellAll (q.1, q.2) (mem_of_lookup (hcl2 q hq))
  · exact F.cellApart y z c (hcl2 _ (mem_of_lookup e1)) (hcl2 _ (mem_of_lookup e2))

theorem Src.own {h : Heap} {μ : List Addr} {H : Hp} {it : Addr} {i : Nat} {items : List D} {d : D} (x : Src h μ H it i items d) : OwnOk [it] h := fun b hb o ho => by
  obtain ⟨oi, hoi, ⟨vi, hvi⟩, hci, _⟩ := x.obj
  rw [List.mem_singleton.mp hb, hoi] at ho; cases ho
  exact ⟨(fun xs n q => by rw [hvi] at q; cases q), (fun q => by rw [hvi] at q; cases q), fun _ _ => hci⟩

theorem belows_app {n : Nat} {d : D} (hd : below n d = true) (as : List D) (h : belows n as = true) : belows n (as ++ [d]) = true := by
  induction as with
  | nil => exact Bool.and_eq_true_iff.mpr ⟨hd, rfl⟩
  | cons b r ih =>
    obtain ⟨h1, h2⟩ := Bool.and_eq_true_iff.mp h
    exact Bool.and_eq_true_iff.mpr ⟨h1, ih h2⟩

/-- a comprehension's loop, n turns ahead of its end -/
inductive CompI (G : Gl) (l : List Env) (te : D → Hp → (Bool → Hp → Prop) → Prop) (ee : D → Hp → (D → Hp → Prop) → Prop) (Qf : List D → Prop) (cenv : Env) (loc0 : Loc) (x : Str) (H₁ : Hp) (μ : List Addr) (X : Heap → Prop) (ai : Addr) (items : List D) (a : D) (n : Nat) (st : Shared) : Prop
  | mk (i : Nat) (acc : List D) (lc : Loc) : i + n = items.length → acc.length ≤ i → belows H₁.length acc = true → Inv G l μ (H₁ ++ [.lst acc]) st → Src st.heap μ (H₁ ++ [.lst acc]) ai i items a → Fok G cenv lc μ st.heap → (∀ y, y ≠ x → getL y lc = getL y loc0) → X st.heap →
    compW te ee H₁ (items.drop i) acc Qf → CompI G l te ee Qf cenv loc0 x H₁ μ X ai items a n st

section
variable {te : D → Hp → (Bool → Hp → Prop) → Prop} {ee : D → Hp → (D → Hp → Prop) → Prop} {Qf : List D → Prop} {cenv : Env} {loc0 : Loc} {x : Str} {H₁ : Hp} {μ : List Addr} {X : Heap → Prop} {ai L : Addr} {items : List D} {a : D} {A : Around} {elt : Expr}

theorem Inv.same {μ' : List Addr} {s s' : Shared} {o : AObj} (I : Inv G l μ (H₁ ++ [o]) s) (J : Inv G l μ' (H₁ ++ [o]) s') (h : ∃ ν, μ' = μ ++ ν) : μ' = μ := by
  obtain ⟨ν, rfl⟩ := h
  have h1 := J.len.trans I.len.symm
  rw [List.length_append] at h1
  rw [List.eq_nil_of_length_eq_zero (Nat.add_left_cancel h1 : ν.length = 0), List.append_nil]

theorem comp_tail {n i : Nat} {acc : List D} {s'' s₃ : Shared} {d : D} {lc : Loc} {ok : Bool} {E' : Value → Shared → Prop} (hjlt : ∀ j, a = .mref j → j < H₁.length) (hμD : μ[H₁.length]? = some L) (hlc : ∀ y, y ≠ x → getL y lc = getL y loc0) (hn : i + 1 + n = items.length) (hacc : acc.length ≤ i) (hz : items.length ≤ 16777216)
    (hbel : belows H₁.length acc = true) (hX : ∀ h', Ext true [] s''.heap μ h' μ → X h') (hm : ai ∉ μ) (I : Inv G l μ (H₁ ++ [.lst acc]) s'') (sr : Src s''.heap μ (H₁ ++ [.lst acc]) ai (i + 1) items a) (F : Fok G cenv lc μ s''.heap)
    (hE : ∀ {s : Shared} {K : D → Hp → Prop}, Inv G l μ (H₁ ++ [.lst acc]) s → Fok G cenv lc μ s.heap → ee d (H₁ ++ [.lst acc]) K → wpAny (model G.prog G.w) A (eval elt cenv) (EvP G l μ s K) (EvX G l μ s fun _ _ => False) s)
    (h₃ : EvB G l μ s'' (fun ok H₃ => H₃ = H₁ ++ [.lst acc] ∧ if ok then ee d (H₁ ++ [.lst acc]) (fun e H₂ => H₂ = H₁ ++ [.lst acc] ∧ below H₁.length e = true ∧ compW te ee H₁ (items.drop (i + 1)) (acc ++ [e]) Qf) else compW te ee H₁ (items.drop (i + 1)) acc Qf) ok s₃) :
    if ok = true then wpAny (model G.prog G.w) A (eval elt cenv) (fun xv s₄ => wpAny (model G.prog G.w) A (call (.builtin "list.append") [.ref L, xv]) (fun _ s₅ => ∃ m, m < n + 1 ∧ CompI G l te ee Qf cenv loc0 x H₁ μ X ai items a m s₅) E' s₄) E' s₃
    else ∃ m, m < n + 1 ∧ CompI G l te ee Qf cenv loc0 x H₁ μ X ai items a m s₃ := by
  obtain ⟨μ₃, H₃, I3, x3, rfl, q3⟩ := h₃
  obtain rfl := I.same I3 x3.pre
  have sr3 := sr.ext (H' := H₁ ++ [.lst acc]) x3 List.not_mem_nil hm OwnOk.nil (chkD_refl _ _)
  have F4 := F.ext x3 I.cell
  cases ok with
  | false => exact ⟨n, Nat.lt_succ_self _, i + 1, acc, lc, hn, Nat.le_succ_of_le hacc, hbel, I3, sr3, F4, hlc, hX _ x3, q3⟩
  | true =>
    refine wpAny_mono (hE I3 F4 q3) (fun ve s₄ h₄ => ?_) (fun _ _ h => by obtain ⟨_, _, _, _, _, _, q⟩ := h; exact q.elim)
    obtain ⟨μ₄, H₄, de, I4, x4, r4, rfl, hbe, hw4⟩ := h₄
    obtain rfl := I3.same I4 x4.pre
    refine wpAny_mono (append_ok I4 hμD List.getElem?_concat_length r4 (Nat.lt_of_le_of_lt hacc (Nat.lt_of_lt_of_le (Nat.lt_of_lt_of_le (Nat.lt_succ_self i) (Nat.le_add_right _ n)) (hn ▸ hz)))) (fun _ s₅ h₅ => ?_) (fun _ _ y => y)
    obtain ⟨_, I5, x5⟩ := h₅
    rw [show (H₁ ++ [AObj.lst acc]).set H₁.length (.lst (acc ++ [de])) = H₁ ++ [.lst (acc ++ [de])] by simp] at I5
    have x45 := x4.trans x5
    exact ⟨n, Nat.lt_succ_self _, i + 1, acc ++ [de], lc, hn, (by rw [List.length_append]; exact Nat.succ_le_succ hacc), belows_app hbe acc hbel, I5, sr3.ext x45 List.not_mem_nil hm OwnOk.nil (chkD_app hjlt), F4.ext x45 I3.cell, hlc, hX _ (x3.trans x45), hw4⟩

theorem tests_ok {ifs : List Expr} {s : Shared} {loc : Loc} {H : Hp} {K : Bool → Hp → Prop} {E : Value → Shared → Prop} (hA : AOk A l k) (hifs : ifs.length ≤ 1) (hT : ∀ c ∈ ifs, ST G l k p c) (I : Inv G l μ H s) (F : Fok G cenv loc μ s.heap) (h : awB p (kcOf cenv.scope.names) .And ifs loc H K fun _ _ => False) :
    wpAny (model G.prog G.w) A (forIn ifs true fun c r => if r = true then do let ok ← isTrue c cenv (eval c cenv); pure (ForInStep.yield ok) else pure (ForInStep.yield r)) (EvB G l μ s K) E s := by
  cases ifs with
  | nil => exact wpAny_tests_nil ⟨μ, H, I, Ext.refl0, h⟩
  | cons c r =>
    obtain rfl : r = [] := List.eq_nil_of_length_eq_zero (Nat.le_zero.mp (Nat.le_of_succ_le_succ hifs))
    refine wpAny_tests_one (wpAny_mono (hT c (.head _) hA I F h) (fun b s₃ h₃ => ?_) (fun _ _ h => by obtain ⟨_, _, _, _, _, _, q⟩ := h; exact q.elim))
    obtain ⟨μ₃, H₃, I3, x3, q3⟩ := h₃
    cases b with
    | false => exact ⟨μ₃, H₃, I3, x3, q3⟩
    | true => exact ⟨μ₃, H₃, I3, x3, q3⟩

theorem comp_loop {iter : Expr} {px : Pos} {ifs : List Expr} {scope : Scope} {pos : Pos} {R : Result → Shared → Prop} {s : Shared} {cl : D → Loc} (hh : A.handled = none) (hjlt : ∀ j, a = .mref j → j < H₁.length) (hμD : μ[H₁.length]? = some L) (hz : items.length ≤ 16777216) (hib : G.base.get? ai = none)
    (hkx : cenv.kindOf x = some .local) (hne : cenv.locals ≠ ai) (hic : ∀ q ∈ cenv.cells, q.2 ∉ [ai]) (hcl : ∀ d lc, (∀ y, y ≠ x → getL y lc = getL y loc0) → ∀ y, getL y (cl d) = getL y (setL x d lc)) (hXX : ∀ {h h' : Heap}, X h → Ext true [ai, cenv.locals] h μ h' μ → X h')
    (hT : ∀ {d : D} {H : Hp} {s : Shared} {K : Bool → Hp → Prop} {E : Value → Shared → Prop}, Inv G l μ H s → Fok G cenv (cl d) μ s.heap → te d H K → wpAny (model G.prog G.w) A (forIn ifs true fun c r => if r = true then do let ok ← isTrue c cenv (eval c cenv); pure (ForInStep.yield ok) else pure (ForInStep.yield r)) (EvB G l μ s K) E s)
    (hE : ∀ {d : D} {H : Hp} {s : Shared} {K : D → Hp → Prop}, Inv G l μ H s → Fok G cenv (cl d) μ s.heap → ee d H K → wpAny (model G.prog G.w) A (eval elt cenv) (EvP G l μ s K) (EvX G l μ s fun _ _ => False) s)
    (hR : ∀ s' acc, Inv G l μ (H₁ ++ [.lst acc]) s' → X s'.heap → (∃ m, s'.heap.Ns cenv.locals m) → belows H₁.length acc = true → Qf acc → R (.ok .next) s')
    (h : CompI G l te ee Qf cenv loc0 x H₁ μ X ai items a items.length s) :
    codeAny (model G.prog G.w) A (.compLoop (.ListComp elt [⟨.Name x px, iter, ifs, 0⟩] scope pos) 0 (.ref ai) (.ref L) cenv) R s := by
  refine codeAny_compLoop_tests (CompI G l te ee Qf cenv loc0 x H₁ μ X ai items a) (fun n st hJ => ?_) items.length h (fun v => rfl)
  obtain ⟨i, acc, lc, hin, hacc, hbel, Ij, srj, Fj, hlc, xj, wj⟩ := hJ
  have hmi := srj.notMut Ij
  have apart : ∀ b ∈ [ai, cenv.locals], b ∉ μ := fun b hb => by
    rcases List.mem_cons.mp hb with rfl | hb
    · exact hmi
    · rw [List.mem_singleton.mp hb]; exact Fj.notMut
  have one : ∀ b ∈ [ai], b ∈ [ai, cenv.locals] := fun b hb => by rw [List.mem_singleton.mp hb]; exact .head _
  cases n with
  | zero =>
    have hi : items.length ≤ i := Nat.le_of_eq hin.symm
    rw [List.drop_eq_nil_of_le hi] at wj
    refine wpAny_mono (Src.done hh Ij srj hib (List.getElem?_eq_none hi) (Nat.le_of_eq hin)) (fun r s' h' => ?_) (fun _ _ y => y)
    obtain ⟨rfl, h', rfl, I', x'⟩ := h'
    have F' := Fj.extOwn x' srj.own (fun q => hne (List.mem_singleton.mp q)) hic Ij.cell
    exact hR _ acc I' (hXX xj (x'.owned one apart)) (let ⟨m, hn, _⟩ := F'.ns; ⟨m, hn⟩) hbel wj
  | succ n =>
    have hlt : i < items.length := hin ▸ Nat.lt_add_of_pos_right (Nat.succ_pos n)
    rw [List.drop_eq_getElem_cons hlt] at wj
    refine wpAny_mono (Src.next Ij srj hib (List.getElem?_eq_getElem hlt)) (fun r s' h' => ?_) (fun _ _ y => y)
    obtain ⟨v', h', tk, rfl, rfl, I', x', sr', rv⟩ := h'
    have F' := Fj.extOwn x' srj.own (fun q => hne (List.mem_singleton.mp q)) hic Ij.cell
    refine wpAny_assign_Name (wpAny_mono (store_loc I' F' rv hkx) (fun _ s'' h'' => ?_) (fun _ _ y => y))
    obtain ⟨I'', x'', F''⟩ := h''
    have y2 := (x'.owned one apart).trans (x''.owned (fun b hb => by rw [List.mem_singleton.mp hb]; exact .tail _ (.head _)) apart)
    have okC : OwnOk [cenv.locals] h' := by obtain ⟨m, hn, _⟩ := F'.ns; exact OwnOk.ns hn
    have sr'' := sr'.ext (H' := H₁ ++ [.lst acc]) x'' (fun q => hne (List.mem_singleton.mp q).symm) hmi okC (chkD_refl _ _)
    have F3 := F''.congr (hcl items[i] lc hlc)
    refine wpAny_mono (hT I'' F3 wj) (fun ok s₃ h₃ => ?_) (fun _ _ y => y)
    exact comp_tail (lc := cl items[i]) hjlt hμD (fun y hy => by rw [hcl items[i] lc hlc, getL_setL, if_neg hy, hlc y hy]) (by rw [Nat.add_assoc, Nat.add_comm 1 n]; exact hin) hacc hz hbel (fun h' x3 => hXX xj (y2.trans (x3.owned (fun _ h => nomatch h) apart))) hmi I'' sr'' F3 (fun I F h => hE I F h) h₃
end

theorem comp_block {A : Around} {E : Value → Shared → Prop} {env : Env} {loc : Loc} {H₁ : Hp} {s₁ : Shared} {μ₁ : List Addr} {v : Value} {a : D} {items : List D} {elt iter : Expr} {x : Str} {px : Pos} {ifs : List Expr} {scope : Scope} {pos : Pos} {cl : List (Str × Addr)}
    {Qf : List D → Prop} {RR : Value → Addr → Result → Shared → Prop} (hA : AOk A l k) (I₁ : Inv G l μ₁ H₁ s₁) (F₁ : Fok G env loc μ₁ s₁.heap) (r₁ : Rep s₁.heap μ₁ v a) (e : itemsD (view H₁ a) = some items) (hlen : items.length ≤ 16777216)
    (hc : compOk (kcOf env.scope.names) x scope = true) (hifs : ifs.length ≤ 1) (hE : SE G l k p elt) (hT : ∀ c ∈ ifs, ST G l k p c)
    (hcl1 : ∀ y, scope.names.lookup y = some .free → cl.lookup y = env.cells.lookup y) (hcl2 : ∀ q ∈ cl, env.cells.lookup q.1 = some q.2)
    (w : compW (fun d H₂ K => awB p (kcOf scope.names) .And ifs (compLoc scope x d loc) H₂ K fun _ _ => False) (fun d H₂ K => awE p (kcOf scope.names) elt (compLoc scope x d loc) H₂ K fun _ _ => False) H₁ items [] Qf)
    (hRR : ∀ D C s' ds, Inv G l (μ₁ ++ [D]) (H₁ ++ [.lst ds]) s' → Ext true [C] s₁.heap μ₁ s'.heap (μ₁ ++ [D]) → (∃ m, s'.heap.Ns C m) → C ∉ μ₁ ++ [D] → s₁.heap.get? C = none → G.base.get? C = none → belows H₁.length ds = true → Qf ds → RR (.ref D) C (.ok .next) s') :
    wpAny (model G.prog G.w) A (pyIter v) (fun it s₂ => wpAny (model G.prog G.w) A (newList []) (fun acc s₃ => wpAny (model G.prog G.w) A (newFunctionEnv scope env.globals cl [] env.qual none .none (some env)) (fun cenv s₄ =>
      codeAny (model G.prog G.w) A (.compStart (.ListComp elt [⟨.Name x px, iter, ifs, 0⟩] scope pos) 0 it acc { cenv with scope := relabel scope env }) (RR acc cenv.locals) s₄) E s₃) E s₂) E s₁ := by
  have hc' := hc
  unfold compOk at hc'
  simp only [Bool.and_eq_true] at hc'
  obtain ⟨⟨⟨⟨⟨⟨hfree, hcell⟩, hkind⟩, hnames⟩, hx⟩, hdbg⟩, hcld⟩ := hc'
  have hcell' : ∀ y ∈ scope.names, y.2 ≠ .cell := fun y hy => by have := List.all_eq_true.mp hcell y hy; simpa using this
  refine wpAny_mono (Src.start I₁ r₁ e) (fun it s₂ h₂ => ?_) (fun _ _ y => y)
  obtain ⟨ai, oi, rfl, hai, rfl, sr⟩ := h₂
  have hai0 : s₁.heap.get? ai = none := by rw [hai]; exact push_fresh
  have k2 : ∀ b o, s₁.heap.get? b = some o → (s₁.heap.push oi).get? b = some o := fun _ _ e => Heap.get?_push_of_some _ e
  have I₂ : Inv G l μ₁ H₁ { s₁ with heap := s₁.heap.push oi } := I₁.keeps (tk := s₁.toks) k2
  have hib : G.base.get? ai = none := none_back I₁.stays hai0
  refine wpAny_newObj_type (wpAny_newFunctionEnv hcell' (by intro y hy; simp at hy) (fun h₄ hns hsb => ?_) (beq_iff_eq.mp hkind))
  dsimp only at hns hsb ⊢
  generalize hH2 : (s₁.heap.push oi).push { cls := .type "list", dict := none, data := .seq ([] : List Value).toArray } = h₃ at hns hsb ⊢
  generalize hD : (s₁.heap.push oi).objs.size = D
  have k3 : ∀ b o, (s₁.heap.push oi).get? b = some o → h₃.get? b = some o := fun _ _ e => by rw [← hH2]; exact Heap.get?_push_of_some _ e
  have hD0 : (s₁.heap.push oi).get? D = none := by rw [← hD]; exact push_fresh
  have hD3 : h₃.get? D = some (listO [] 0) := by rw [← hH2, ← hD]; exact Heap.get?_push_size _ rfl
  obtain ⟨I₃, x₃⟩ := I₂.newList (vs := []) (ds := []) (n := 0) (h' := h₃) (tk := s₁.toks) .nil (by simp) k3 hD0 hD3
  generalize hC : h₃.objs.size = C at hns hsb
  have hC0 : h₃.get? C = none := by rw [← hC]; exact push_fresh
  have k4 : ∀ b o, h₃.get? b = some o → h₄.get? b = some o := fun b o e => hsb.extBut b o (fun q => by rw [q, hC0] at e; cases e) (Heap.get?_push_of_some _ e)
  have hCm : C ∉ μ₁ ++ [D] := fun q => by obtain ⟨o, ho⟩ := I₃.live _ q; rw [hC0] at ho; cases ho
  have hCb : G.base.get? C = none := none_back I₃.stays hC0
  have hC1 : s₁.heap.get? C = none :=
    none_back (fun b o e => k3 b o (k2 b o e)) hC0
  have hne : ai ≠ C := fun q => by
    obtain ⟨o, ho, _⟩ := sr.obj
    have := k3 _ _ ho
    rw [q, hC0] at this; cases this
  have I₄ : Inv G l (μ₁ ++ [D]) (H₁ ++ [.lst []]) { s₁ with heap := h₄, toks := s₁.toks + ([] : List (Str × Value)).length } := I₃.keeps k4
  have x₀ : Ext true [ai, C] s₁.heap μ₁ h₄ (μ₁ ++ [D]) := by
    have y1 : Ext true [] s₁.heap μ₁ (s₁.heap.push oi) μ₁ := Ext.of_keeps0 k2
    have y2 : Ext true [] h₃ (μ₁ ++ [D]) h₄ (μ₁ ++ [D]) := Ext.of_keeps0 k4
    refine ((y1.trans x₃).trans y2).owned (fun _ h => nomatch h) fun b hb => ?_
    simp only [List.mem_cons, List.not_mem_nil, or_false] at hb
    rcases hb with rfl | rfl
    · have := sr.ext (H' := H₁) x₃ (by simp) (sr.notMut I₂) OwnOk.nil (chkD_refl _ _)
      exact fun q => by
        rcases x₃.new _ q with z | z
        · exact sr.notMut I₂ z
        · obtain ⟨o, ho, _⟩ := sr.obj; rw [z] at ho; cases ho
    · exact hCm
  have hjlt : ∀ j, a = .mref j → j < H₁.length := fun j q => by
    subst q
    have this : decide (j < μ₁.length) = true := r₁.under
    rw [I₁.len] at this
    exact of_decide_eq_true this
  have sr₄ : Src h₄ (μ₁ ++ [D]) (H₁ ++ [.lst []]) ai 0 items a := by
    have y2 : Ext true [] h₃ (μ₁ ++ [D]) h₄ (μ₁ ++ [D]) := Ext.of_keeps0 k4
    refine sr.ext (x₃.trans y2) (by simp) (sr.notMut I₂) OwnOk.nil ?_
    cases a with
    | mref j =>
      show (H₁ ++ [AObj.lst []])[j]? = H₁[j]?
      rw [List.getElem?_append_left (hjlt j rfl)]
    | _ => trivial
  have F₄ : Fok G (compEnvC scope cl C env) (loc.filter fun q => scope.names.lookup q.1 == some .free) (μ₁ ++ [D]) h₄ := by
    have y1 : Ext true [] s₁.heap μ₁ (s₁.heap.push oi) μ₁ := Ext.of_keeps0 k2
    have y2 : Ext true [] h₃ (μ₁ ++ [D]) h₄ (μ₁ ++ [D]) := Ext.of_keeps0 k4
    exact comp_fok (F₁.ext ((y1.trans x₃).trans y2) I₁.cell) hc hcl1 hcl2 hns hCb hCm
  have hkx : (compEnvC scope cl C env).kindOf x = some .local := lookup_relabel_local (beq_iff_eq.mp hx)
  have hcells : ∀ (b : Addr), (∀ w, ¬ s₁.heap.IsCell b w) → ∀ q ∈ cl, q.2 ≠ b := fun b hb q hq z => by
    obtain ⟨⟨w, hw⟩, _⟩ := F₁.cellAll (q.1, q.2) (mem_of_lookup (hcl2 q hq))
    exact hb w (z ▸ hw)
  have hsc : kcOf (compEnvC scope cl C env).scope.names = kcOf scope.names := kcOf_relabel scope env
  have loop : codeAny (model G.prog G.w) A (.compLoop (.ListComp elt [⟨.Name x px, iter, ifs, 0⟩] scope pos) 0 (.ref ai) (.ref D) (compEnvC scope cl C env)) (RR (.ref D) C)
      { s₁ with heap := h₄, toks := s₁.toks + ([] : List (Str × Value)).length } :=
    comp_loop (cl := fun d => compLoc scope x d loc) (loc0 := loc.filter fun q => scope.names.lookup q.1 == some .free) (X := fun h => Ext true [ai, C] s₁.heap μ₁ h (μ₁ ++ [D])) (Qf := Qf) hA.handled hjlt (by rw [← I₁.len]; exact List.getElem?_concat_length) hlen hib hkx (Ne.symm hne)
      (fun q hq z => hcells ai (fun w ⟨o, ho, _⟩ => by rw [hai0] at ho; cases ho) q hq (List.mem_singleton.mp z))
      (fun d lc hlc y => by
        rw [getL_setL]
        show (if x = y then some d else getL y _) = _
        by_cases q : y = x
        · subst q; rw [if_pos rfl, if_pos rfl]
        · rw [if_neg (Ne.symm q), if_neg q, hlc y q])
      (fun a b => a.trans b) (fun I F h => tests_ok hA hifs hT I F (by rw [hsc]; exact h)) (fun I F h => hE hA I F (by rw [hsc]; exact h))
      (fun s' acc I' X' hn hb q => hRR D C s' acc I' (X'.dropFresh hai0) hn hCm hC1 hCb hb q) ⟨0, [], _, Nat.zero_add _, Nat.le_refl _, rfl, I₄, sr₄, F₄, fun _ _ => rfl, x₀, w⟩
  exact codeAny_compStart_list loop (Src.self sr₄ loop)
end

end YV
end

section
set_option autoImplicit false
set_option linter.unusedVariables false
set_option maxRecDepth 10000
namespace YV
open PySem PySem.Calls PyProof.Rows PySem.W

section
variable {G : Gl} {l : List Env} {k : Nat} {p : Pg}

theorem Inv.frameNe {μ : List Addr} {H : Hp} {s : Shared} (I : Inv G l μ H s) {a : Addr} (h : s.heap.get? a = none) : ∀ env ∈ l, env.frame ≠ some a := fun env he hf => by
  obtain ⟨_, o, ho, _⟩ := I.frames.mem (List.mem_filterMap.mpr ⟨env, he, hf⟩)
  rw [h] at ho; cases ho

theorem comp_front {elt iter : Expr} {x : Str} {px : Pos} {ifs : List Expr} {scope : Scope} {pos cpos : Pos} {A : Around} {env : Env} {loc : Loc} {H : Hp} {Q : D → Hp → Prop} {X : Value → Hp → Prop} {s : Shared} {μ : List Addr} {use : Option (Value → Sem Unit)} {R : Value → Shared → Prop} {E : Value → Shared → Prop}
    (hi : SE G l k p iter) (hE : SE G l k p elt) (hT : ∀ c ∈ ifs, ST G l k p c) (hA : AOk A l k) (I : Inv G l μ H s) (F : Fok G env loc μ s.heap) (h : awE p (kcOf env.scope.names) (.ListComp elt [⟨.Name x px, iter, ifs, 0⟩] scope pos) loc H Q X) (hX : ∀ e s', EvX G l μ s X e s' → E e s')
    (fin : ∀ s₁ μ₁ H₁ L C s' m μ₂ H₂ d, Inv G l μ₁ H₁ s₁ → Ext true [] s.heap μ s₁.heap μ₁ → Fok G env loc μ₁ s₁.heap → s₁.heap.get? C = none → Inv G l μ₂ H₂ s' → Ext true [C] s₁.heap μ₁ s'.heap μ₂ → s'.heap.Ns C m → C ∉ μ₂ → G.base.get? C = none → Rep s'.heap μ₂ (.ref L) d → Q d H₂ →
      compPost (model G.prog G.w) A E use R (.ref L) C (.ok .next) s') :
    wpAny (model G.prog G.w) A (comprehension (.ListComp elt [⟨.Name x px, iter, ifs, 0⟩] scope pos) scope env cpos (newList []) false (eval iter env) use) R E s := by
  obtain ⟨hc, h⟩ := h
  obtain ⟨hc, hifs⟩ := Bool.and_eq_true_iff.mp hc
  obtain ⟨hp, hco⟩ := Bool.and_eq_true_iff.mp hc
  have hc' := hco
  unfold compOk at hc'
  simp only [Bool.and_eq_true] at hc'
  obtain ⟨⟨⟨⟨⟨⟨hfree, hcell⟩, hkind⟩, hnames⟩, hx⟩, hdbg⟩, hcld⟩ := hc'
  obtain ⟨cl, e1, c1, c2⟩ := closure_ok F hfree
  refine wpAny_comprehension_free rfl (folded_plain hp) e1 (beq_iff_eq.mp hkind) (fun y hy hl => by
    have := List.all_eq_true.mp hnames y hy
    rw [hl] at this
    simpa using this) (wpAny_mono (hi.go hA Ext.refl0 I F h fun v s₁ μ₁ H₁ a I₁ x₁ _ F₁ r₁ q₁ => ?_) (fun _ _ y => y) hX)
  obtain ⟨items, ei, hlen, w⟩ := q₁
  refine comp_block (RR := fun acc C => compPost (model G.prog G.w) A E use R acc C) hA I₁ F₁ r₁ ei hlen hco (of_decide_eq_true hifs) hE hT c1 c2 w ?_
  intro L C s' ds I' x' hn hCm hC1 hCb hb q
  obtain ⟨m, hn⟩ := hn
  by_cases hm : p.mu pos = true
  · rw [if_pos hm] at q
    exact fin s₁ μ₁ H₁ L C s' m _ _ _ I₁ x₁ F₁ hC1 I' x' hn hCm hCb I₁.newAt q
  · rw [if_neg hm] at q
    obtain ⟨I3, r3⟩ := I'.pop I₁.hbelow hb
    exact fin s₁ μ₁ H₁ L C s' m _ _ _ I₁ x₁ F₁ hC1 I3 x'.pop hn (fun z => hCm (List.mem_append_left _ z)) hCb r3 q

theorem se_ListComp {elt iter : Expr} {x : Str} {px : Pos} {ifs : List Expr} {scope : Scope} {pos : Pos} (hi : SE G l k p iter) (hE : SE G l k p elt) (hT : ∀ c ∈ ifs, ST G l k p c) :
    SE G l k p (.ListComp elt [⟨.Name x px, iter, ifs, 0⟩] scope pos) := by
  intro A env loc H Q X s μ hA I F h
  rw [eval_ListComp]
  refine comp_front (use := none) hi hE hT hA I F h (fun _ _ y => y) fun s₁ μ₁ H₁ L C s' m μ₂ H₂ d I₁ x₁ F₁ hC1 I' x' hn hCm hCb r q => ⟨m, hn, fun h' hs => ?_⟩
  obtain ⟨I2, x2⟩ := I'.drop hCm hCb (fun env he => I₁.frameNe hC1 env he) hs.extBut (OwnOk.ns hn)
  exact ⟨μ₂, H₂, d, I2, x₁.trans ((x'.trans x2).dropFresh hC1), r.ext x2 (OwnOk.ns hn), q⟩

theorem st_value {e : Expr} (he : SE G l k p e) (hn : ∀ (env : Env) (w : Sem Value), isTrue e env w = (do let v ← w; standAt e.pos; holding [v] (truthy v)))
    (ha : ∀ sc w loc H Q X, awT p sc e w loc H Q X → w (fun d H₁ => match d with | .bool b => Q b H₁ | _ => False)) : ST G l k p e := by
  intro A env loc H Q X s μ hA I F h
  refine wpAny_isTrue_value (he.go hA Ext.refl0 I F (ha _ _ _ _ _ _ h) fun v s₁ μ₁ H₁ d I₁ x₁ _ _ r₁ q₁ => ?_) (hn env _)
  obtain ⟨b, rfl, q₁⟩ := of_bool q₁
  obtain rfl := r₁.inv
  exact wpAny_truthy_bool ⟨μ₁, H₁, I₁, x₁, q₁⟩

theorem st_Not {e : Expr} {pos : Pos} (he : ST G l k p e) : ST G l k p (.UnaryOp .Not e pos) := by
  intro A env loc H Q X s μ hA I F h
  exact wpAny_isTrue_Not (he.go hA Ext.refl0 I F h fun b s₁ μ₁ H₁ I₁ x₁ _ q₁ => ⟨μ₁, H₁, I₁, x₁, q₁⟩)

theorem EvB.back {μ μ₁ : List Addr} {s s₁ : Shared} {Q : Bool → Hp → Prop} (x : Ext true [] s.heap μ s₁.heap μ₁) {b : Bool} {s' : Shared} (h : EvB G l μ₁ s₁ Q b s') : EvB G l μ s Q b s' := by
  obtain ⟨μ', H', I, y, q⟩ := h
  exact ⟨μ', H', I, x.trans y, q⟩

theorem sb_nil : SB G l k p [] := by
  intro op A env loc H Q X s μ hA I F h
  rw [arm_allTrue_nil]
  exact wpAny_pure ⟨μ, H, I, Ext.refl0, h⟩
theorem sb_cons {e : Expr} {es : List Expr} (he : ST G l k p e) (hes : SB G l k p es) : SB G l k p (e :: es) := by
  intro op A env loc H Q X s μ hA I F h
  cases op with
  | And =>
    refine wpAny_allTrue_And_cons (he.go hA Ext.refl0 I F h fun b s₁ μ₁ H₁ I₁ x₁ F₁ q₁ => ?_)
    cases b with
    | true => exact wpAny_mono (hes .And hA I₁ F₁ q₁) (fun _ _ y => EvB.back x₁ y) (fun _ _ y => EvX.back x₁ y)
    | false => exact ⟨μ₁, H₁, I₁, x₁, q₁⟩
  | Or =>
    refine wpAny_allTrue_Or_cons (he.go hA Ext.refl0 I F h fun b s₁ μ₁ H₁ I₁ x₁ F₁ q₁ => ?_)
    cases b with
    | false => exact wpAny_mono (hes .Or hA I₁ F₁ q₁) (fun _ _ y => EvB.back x₁ y) (fun _ _ y => EvX.back x₁ y)
    | true => exact ⟨μ₁, H₁, I₁, x₁, q₁⟩
theorem st_BoolOp {op : BoolOp} {es : List Expr} {pos : Pos} (hes : SB G l k p es) : ST G l k p (.BoolOp op es pos) := by
  intro A env loc H Q X s μ hA I F h
  exact wpAny_isTrue_BoolOp (hes op hA I F h)

theorem se_absurd {e : Expr} (h : ∀ sc loc H Q X, ¬ awE p sc e loc H Q X) : SE G l k p e := by
  intro A env loc H Q X s μ hA I F q
  exact absurd q (h _ _ _ _ _)
theorem st_absurd {e : Expr} (h : ∀ sc w loc H Q X, ¬ awT p sc e w loc H Q X) : ST G l k p e := by
  intro A env loc H Q X s μ hA I F q
  exact absurd q (h _ _ _ _ _ _)

theorem comp_form {sc : Str → Option NK} {elt : Expr} {gens : List Comprehension} {scope : Scope} {pos : Pos} {loc : Loc} {H : Hp} {Q : D → Hp → Prop} {X : Value → Hp → Prop} (h : awE p sc (.ListComp elt gens scope pos) loc H Q X) : ∃ x px iter ifs, gens = [⟨.Name x px, iter, ifs, 0⟩] := by
  rcases gens with _ | ⟨⟨t, iter, ifs, as⟩, _ | ⟨g, r⟩⟩
  · exact False.elim h
  · cases t <;> first | exact False.elim h | skip
    rcases as with (_ | _) | _ <;> first | exact False.elim h | exact ⟨_, _, _, _, rfl⟩
  · cases t <;> first | exact False.elim h | (rcases as with (_ | _) | _ <;> exact False.elim h)
theorem p11 {m a n : Nat} (e : m = 1 + a) (h : m < n + 1) : a < n := by omega
theorem p21 {m a b n : Nat} (e : m = 1 + a + b) (h : m < n + 1) : a < n := by omega
theorem p22 {m a b n : Nat} (e : m = 1 + a + b) (h : m < n + 1) : b < n := by omega
theorem p31 {m a b c n : Nat} (e : m = 1 + a + b + c) (h : m < n + 1) : a < n := by omega
theorem p32 {m a b c n : Nat} (e : m = 1 + a + b + c) (h : m < n + 1) : b < n := by omega
theorem p41 {m a b c d n : Nat} (e : m = 1 + a + b + c + d) (h : m < n + 1) : a < n := by omega
theorem p42 {m a b c d n : Nat} (e : m = 1 + a + b + c + d) (h : m < n + 1) : b < n := by omega
theorem p43 {m a b c d n : Nat} (e : m = 1 + a + b + c + d) (h : m < n + 1) : c < n := by omega

theorem cmp_form {sc : Str → Option NK} {a : Expr} {ops : List CmpOp} {bs : List Expr} {pos : Pos} {loc : Loc} {H : Hp} {Q : D → Hp → Prop} {X : Value → Hp → Prop} (h : awE p sc (.Compare a ops bs pos) loc H Q X) : (∃ o b, ops = [o] ∧ bs = [b]) ∨ ∃ o₁ o₂ b c, ops = [o₁, o₂] ∧ bs = [b, c] := by
  rcases ops with _ | ⟨o₁, _ | ⟨o₂, _ | ⟨o₃, r⟩⟩⟩ <;> rcases bs with _ | ⟨b, _ | ⟨c, _ | ⟨d, t⟩⟩⟩ <;> first
    | exact .inl ⟨_, _, rfl, rfl⟩
    | exact .inr ⟨_, _, _, _, rfl, rfl⟩
    | exact False.elim h
theorem se_Compare {a : Expr} {ops : List CmpOp} {bs : List Expr} {pos : Pos} (ha : SE G l k p a) (hb : ∀ c ∈ bs, SE G l k p c) : SE G l k p (.Compare a ops bs pos) := by
  intro A env loc H Q X s μ hA I F q
  rcases cmp_form q with ⟨o, b, rfl, rfl⟩ | ⟨o₁, o₂, b, c, rfl, rfl⟩
  · exact se_Compare1 ha (hb _ (.head _)) hA I F q
  · exact se_Compare2 ha (hb _ (.head _)) (hb _ (.tail _ (.head _))) hA I F q
theorem st_Compare {a : Expr} {ops : List CmpOp} {bs : List Expr} {pos : Pos} (ha : SE G l k p a) (hb : ∀ c ∈ bs, SE G l k p c) : ST G l k p (.Compare a ops bs pos) := by
  intro A env loc H Q X s μ hA I F q
  rcases cmp_form (Q := fun d H₁ => match d with | .bool b => Q b H₁ | _ => False) q with ⟨o, b, rfl, rfl⟩ | ⟨o₁, o₂, b, c, rfl, rfl⟩
  · exact st_Compare1 ha (hb _ (.head _)) hA I F q
  · exact st_Compare2 ha (hb _ (.head _)) (hb _ (.tail _ (.head _))) hA I F q
theorem se_Bool {op : BoolOp} {es : List Expr} {pos : Pos} (hb : ∀ c ∈ es, SE G l k p c) : SE G l k p (.BoolOp op es pos) := by
  rcases es with _ | ⟨a, _ | ⟨b, _ | ⟨c, r⟩⟩⟩ <;> first
    | exact se_BoolOp (hb _ (.head _)) (hb _ (.tail _ (.head _)))
    | exact se_absurd fun _ _ _ _ _ q => by exact q
theorem se_Sub {v i : Expr} {pos : Pos} (hv : SE G l k p v) (hi : SE G l k p i) (ho : ∀ lo hi sp, i = .Slice lo hi none sp → SO G l k p lo ∧ SO G l k p hi) : SE G l k p (.Subscript v i pos) := by
  by_cases hs : ∃ lo hi sp, i = .Slice lo hi none sp
  · obtain ⟨lo, hi, sp, rfl⟩ := hs
    exact se_Slice hv (ho _ _ _ rfl).1 (ho _ _ _ rfl).2
  · exact se_Subscript hv hi fun lo hi sp q => hs ⟨lo, hi, sp, q⟩
theorem sound_all (P : POk G k p) : ∀ n, (∀ e : Expr, sizeOf e < n → SE G l k p e ∧ ST G l k p e) ∧ (∀ es : List Expr, sizeOf es < n → SEs G l k p es ∧ SB G l k p es ∧ ∀ c ∈ es, SE G l k p c ∧ ST G l k p c) ∧ ∀ o : Option Expr, sizeOf o < n → SO G l k p o := by
  intro n
  induction n with
  | zero =>
    exact ⟨fun e h => absurd h (Nat.not_lt_zero _), fun es h => absurd h (Nat.not_lt_zero _), fun o h => absurd h (Nat.not_lt_zero _)⟩
  | succ n ih =>
    obtain ⟨iE, iEs, iO⟩ := ih
    have val : ∀ {e : Expr}, SE G l k p e → (∀ (env : Env) (w : Sem Value), isTrue e env w = (do let v ← w; standAt e.pos; holding [v] (truthy v))) → (∀ sc w loc H Q X, awT p sc e w loc H Q X → w (fun d H₁ => match d with | .bool b => Q b H₁ | _ => False)) → SE G l k p e ∧ ST G l k p e := fun a b c => ⟨a, st_value a b c⟩
    have no : ∀ {e : Expr}, (∀ sc loc H Q X, ¬ awE p sc e loc H Q X) → (∀ (env : Env) (w : Sem Value), isTrue e env w = (do let v ← w; standAt e.pos; holding [v] (truthy v))) → (∀ sc w loc H Q X, awT p sc e w loc H Q X → w (fun d H₁ => match d with | .bool b => Q b H₁ | _ => False)) → SE G l k p e ∧ ST G l k p e := fun a b c => ⟨se_absurd a, st_value (se_absurd a) b c⟩
    refine ⟨fun e h => ?_, fun es h => ?_, fun o h => ?_⟩
    · cases e with
      | Constant c m pos => exact val se_Constant (fun _ _ => rfl) (fun _ _ _ _ _ _ q => by exact q)
      | Name x pos => exact val (se_Name P) (fun _ _ => rfl) (fun _ _ _ _ _ _ q => by exact q)
      | BinOp a op b pos => exact val (se_BinOp (iE a (p41 (Expr.BinOp.sizeOf_spec ..) h)).1 (iE b (p43 (Expr.BinOp.sizeOf_spec ..) h)).1) (fun _ _ => rfl) (fun _ _ _ _ _ _ q => by exact q)
      | UnaryOp op a pos =>
        have ia := iE a (p32 (Expr.UnaryOp.sizeOf_spec ..) h)
        cases op with
        | USub => exact val (se_USub ia.1) (fun _ _ => rfl) (fun _ _ _ _ _ _ q => by exact q)
        | Not => exact ⟨se_absurd fun _ _ _ _ _ q => by exact q, st_Not ia.2⟩
        | _ => exact no (fun _ _ _ _ _ q => by exact q) (fun _ _ => rfl) (fun _ _ _ _ _ _ q => by exact q)
      | IfExp t a b pos => exact ⟨se_IfExp (iE t (p41 (Expr.IfExp.sizeOf_spec ..) h)).2 (iE a (p42 (Expr.IfExp.sizeOf_spec ..) h)).1 (iE b (p43 (Expr.IfExp.sizeOf_spec ..) h)).1, st_absurd fun _ _ _ _ _ _ q => by exact q⟩
      | BoolOp op es pos =>
        have ie := iEs es (p32 (Expr.BoolOp.sizeOf_spec ..) h)
        exact ⟨se_Bool fun c hc => (ie.2.2 c hc).1, st_BoolOp ie.2.1⟩
      | Compare a ops bs pos =>
        have ia : SE G l k p a := (iE a (p41 (Expr.Compare.sizeOf_spec ..) h)).1
        have ib : ∀ c ∈ bs, SE G l k p c := fun c hc => ((iEs bs (p43 (Expr.Compare.sizeOf_spec ..) h)).2.2 c hc).1
        exact ⟨se_Compare ia ib, st_Compare ia ib⟩
      | Call f args kws pos =>
        have ia : SEs G l k p args := (iEs args (p42 (Expr.Call.sizeOf_spec ..) h)).1
        have hf := p41 (Expr.Call.sizeOf_spec ..) h
        rcases kws with _ | ⟨kw, kws⟩
        · cases f with
          | Attribute o name apos => exact val (se_CallMethod P (iE o (p31 (Expr.Attribute.sizeOf_spec ..) (Nat.lt_succ_of_lt hf))).1 ia) (fun _ _ => rfl) (fun _ _ _ _ _ _ q => by exact q)
          | Name f fp => exact val (se_CallName P ia) (fun _ _ => rfl) (fun _ _ _ _ _ _ q => by exact q)
          | _ => exact no (fun _ _ _ _ _ q => by exact q) (fun _ _ => rfl) (fun _ _ _ _ _ _ q => by exact q)
        · exact no (fun _ _ _ _ _ q => by cases f <;> exact q) (fun _ _ => rfl) (fun _ _ _ _ _ _ q => by exact q)
      | Attribute o name pos => exact val (se_Attribute P (iE o (p31 (Expr.Attribute.sizeOf_spec ..) h)).1) (fun _ _ => rfl) (fun _ _ _ _ _ _ q => by exact q)
      | Subscript v i pos =>
        have hi := p32 (Expr.Subscript.sizeOf_spec ..) h
        exact val (se_Sub (iE v (p31 (Expr.Subscript.sizeOf_spec ..) h)).1 (iE i hi).1 (fun lo hi' sp q => by
          subst q
          exact ⟨iO lo (p41 (Expr.Slice.sizeOf_spec ..) (Nat.lt_succ_of_lt hi)), iO hi' (p42 (Expr.Slice.sizeOf_spec ..) (Nat.lt_succ_of_lt hi))⟩)) (fun _ _ => rfl) (fun _ _ _ _ _ _ q => by exact q)
      | List es pos => exact val (se_List (iEs es (p21 (Expr.List.sizeOf_spec ..) h)).1) (fun _ _ => rfl) (fun _ _ _ _ _ _ q => by exact q)
      | Tuple es m pos => exact val (se_Tuple (iEs es (p31 (Expr.Tuple.sizeOf_spec ..) h)).1) (fun _ _ => rfl) (fun _ _ _ _ _ _ q => by exact q)
      | ListComp elt gens scope pos =>
        refine val ?_ (fun _ _ => rfl) (fun _ _ _ _ _ _ q => by exact q)
        intro A env loc H Q X s μ hA I F q
        obtain ⟨x, px, iter, ifs, rfl⟩ := comp_form q
        have hg := p21 (List.cons.sizeOf_spec ..) (Nat.lt_succ_of_lt (p42 (Expr.ListComp.sizeOf_spec ..) h))
        exact se_ListComp (iE iter (p42 (Comprehension.mk.sizeOf_spec ..) (Nat.lt_succ_of_lt hg))).1 (iE elt (p41 (Expr.ListComp.sizeOf_spec ..) h)).1 (fun c hc => ((iEs ifs (p43 (Comprehension.mk.sizeOf_spec ..) (Nat.lt_succ_of_lt hg))).2.2 c hc).2) hA I F q
      | _ => exact no (fun _ _ _ _ _ q => by exact q) (fun _ _ => rfl) (fun _ _ _ _ _ _ q => by exact q)
    · cases es with
      | nil => exact ⟨ses_nil, sb_nil, fun _ h => nomatch h⟩
      | cons e es =>
        obtain ⟨a1, a2, a3⟩ := iEs es (p22 (List.cons.sizeOf_spec ..) h)
        have he := iE e (p21 (List.cons.sizeOf_spec ..) h)
        exact ⟨ses_cons he.1 a1, sb_cons he.2 a2, fun c hc => by
          rcases List.mem_cons.mp hc with rfl | hc
          · exact he
          · exact a3 c hc⟩
    · cases o with
      | none => exact so_none
      | some e => exact so_some (iE e (p11 (Option.some.sizeOf_spec ..) h)).1

theorem soundE (P : POk G k p) (e : Expr) : SE G l k p e := ((sound_all P (sizeOf e + 1)).1 e (Nat.lt_succ_self _)).1
theorem soundT (P : POk G k p) (e : Expr) : ST G l k p e := ((sound_all P (sizeOf e + 1)).1 e (Nat.lt_succ_self _)).2
end

end YV
end

section
set_option autoImplicit false
set_option linter.unusedVariables false
set_option maxRecDepth 10000
namespace YV
open PySem PySem.Calls PyProof.Rows PySem.W

section
variable {G : Gl} {l : List Env} {k : Nat} {p : Pg}

/-- a change of records alone, and of the frames' slots -/
theorem Inv.chg {μ : List Addr} {H : Hp} {s : Shared} (I : Inv G l μ H s) {ow : List Addr} {h' : Heap} (hk : ∀ b o, s.heap.get? b = some o → b ∉ ow → ∃ sl, h'.get? b = some { o with slots := sl } ∧ (b ∉ l.filterMap (·.frame) → sl = o.slots))
    (ho : ∀ a ∈ ow, ∃ o vs, s.heap.get? a = some o ∧ o.data = .fields vs ∧ o.cls ≠ .type "range") (hb : ∀ a ∈ ow, G.base.get? a = none) : Inv G l μ H { s with heap := h' } ∧ Ext true ow s.heap μ h' μ := by
  have hm : ∀ a ∈ ow, a ∉ μ := fun a ha q => by
    obtain ⟨o, vs, h1, h2, _⟩ := ho a ha
    obtain ⟨o', h1', hk', _⟩ := I.kind q
    rw [h1] at h1'; cases h1'; exact hk' vs h2
  have frd : ∀ a o, a ∈ l.filterMap (·.frame) → s.heap.get? a = some o → ∃ es n, o.data = .dict es n := fun a o ha ho => by
    obtain ⟨env, he, hf⟩ := List.mem_filterMap.mp ha
    obtain ⟨o', es, n, h1, h2⟩ := I.fd env he a hf
    rw [ho] at h1; cases h1; exact ⟨es, n, h2⟩
  have hx : Ext true ow s.heap μ h' μ := by
    refine ⟨⟨[], by simp⟩, fun a ha => .inl ha, fun a o e hμ hn _ => ?_, fun a o e hn => ?_, hm⟩
    · obtain ⟨sl, h1, h2⟩ := hk a o e hn
      refine ⟨sl, h1, fun hd => h2 fun q => ?_⟩
      obtain ⟨es, n, h3⟩ := frd a o q e
      exact hd es n h3
    · obtain ⟨sl, h1, _⟩ := hk a o e hn; exact ⟨_, h1⟩
  have ok : OwnOk ow s.heap := fun a ha o e => by
    obtain ⟨o', vs, h1, h2, h3⟩ := ho a ha
    rw [e] at h1; cases h1
    exact ⟨(fun _ _ q => by rw [h2] at q; cases q), (fun q => by rw [h2] at q; cases q), fun _ _ => h3⟩
  have nb : ∀ b o, G.base.get? b = some o → b ∉ ow := fun b o e q => by rw [hb b q] at e; cases e
  have exact' : ∀ b o, s.heap.get? b = some o → b ∉ ow → b ∉ l.filterMap (·.frame) → h'.get? b = some o := fun b o e h1 h2 => by
    obtain ⟨sl, g1, g2⟩ := hk b o e h1
    rw [g2 h2] at g1; exact g1
  refine ⟨⟨fun b o e => exact' b o (I.stays b o e) (nb b o e) fun q => ?_, I.gens, I.os, ?_, I.fresh, I.nodup, I.apart, fun env he L hL => ?_, I.len, fun i b o e1 e2 => ?_⟩, hx⟩
  · rw [(I.frames.mem q).1] at e; cases e
  · refine I.frames.of_keeps fun b o e hn => ?_
    have hbo : b ∉ ow := fun q => by
      obtain ⟨o', vs, h1, h2, _⟩ := ho b q
      rw [e] at h1; cases h1; exact hn vs h2
    obtain ⟨sl, h1, _⟩ := hk b o e hbo
    exact ⟨_, h1, rfl⟩
  · obtain ⟨o, es, n, h1, h2⟩ := I.fd env he L hL
    have hbo : L ∉ ow := fun q => by
      obtain ⟨o', vs, h1', h2', _⟩ := ho L q
      rw [h1] at h1'; cases h1'; rw [h2] at h2'; cases h2'
    obtain ⟨sl, g1, _⟩ := hk L o h1 hbo
    exact ⟨_, es, n, g1, h2⟩
  · have hbμ : b ∈ μ := List.mem_of_getElem? e1
    refine (I.objs i b o e1 e2).mono (fun ob q => exact' b ob q (fun z => hm b z hbμ) fun z => ?_) fun _ _ r => r.ext hx ok
    obtain ⟨env, he, hf⟩ := List.mem_filterMap.mp z
    exact I.apart env he b hf hbμ

/-- the exception's own records -/
noncomputable def xown (ea : Addr) (T : Option Addr) : List Addr := ea :: T.toList

theorem ExcAt.own {raw : Bool} {h : Heap} {ea : Addr} {c fl : Value} {T : Option Addr} (x : ExcAt raw h ea c T fl) : ∀ a ∈ xown ea T, ∃ o vs, h.get? a = some o ∧ o.data = .fields vs ∧ o.cls ≠ .type "range" := by
  obtain ⟨oe, vs, h1, h2, h3, h4, h5, h6, h7⟩ := x
  intro a ha
  rcases List.mem_cons.mp ha with rfl | ha
  · exact ⟨oe, vs, h1, h4, by rw [h2]; exact h3⟩
  · cases T with
    | none => simp at ha
    | some t =>
      simp at ha; subst ha
      obtain ⟨_, _, oT, ts, g1, g2, g3, _⟩ := h7
      exact ⟨oT, ts, g1, g3, by rw [g2]; decide⟩

/-- what an act upon the exception in flight ends in -/
noncomputable def XP (G : Gl) (l : List Env) (μ : List Addr) (H : Hp) (s : Shared) (ea : Addr) (c : Value) (T : Option Addr) (fl : Value) (need : Bool) : Unit → Shared → Prop := fun _ s' =>
  Inv G l μ H s' ∧ Ext true (xown ea T) s.heap μ s'.heap μ ∧ ∃ T', ExcAt (G.raw c) s'.heap ea c T' fl ∧ (T' = T ∨ ∃ t, T' = some t ∧ s.heap.get? t = none) ∧ (need = true → T'.isSome = true)

theorem flight_ok {A : Around} {E : Value → Shared → Prop} {H : Hp} {s : Shared} {μ : List Addr} {ea : Addr} {c fl : Value} {T : Option Addr} (I : Inv G l μ H s) (x : ExcAt (G.raw c) s.heap ea c T fl) (hb : ∀ a ∈ xown ea T, G.base.get? a = none) (fr : Option Addr) :
    wpAny (model G.prog G.w) A (setFlight (.ref ea) fr) (XP G l μ H s ea c T (fr.elim .none fun f => rawInt f) T.isSome) E s := by
  have hown := x.own
  obtain ⟨oe, vs, h1, h2, h3, h4, h5, h6, h7⟩ := x
  have hm : ∀ a ∈ xown ea T, a ∉ μ := fun a ha q => by
    obtain ⟨o, vs, g1, g2, _⟩ := hown a ha
    obtain ⟨o', g1', hk', _⟩ := I.kind q
    rw [g1] at g1'; cases g1'; exact hk' vs g2
  unfold setFlight
  cases T with
  | none =>
    refine wpAny_bind (wpAny_field h1 h4 h7 ?_)
    rw [if_neg (by decide)]
    exact wpAny_pure ⟨I, Ext.refl hm, none, ⟨oe, vs, h1, h2, h3, h4, h5, h6, h7⟩, .inl rfl, fun q => by cases q⟩
  | some t =>
    obtain ⟨g1, g2, oT, ts, g3, g4, g5, g6, g7⟩ := h7
    refine wpAny_bind (wpAny_field h1 h4 g1 ?_)
    rw [if_pos (show (Value.ref t != Value.none) = true from by simp)]
    refine wpAny_setField g3 g5 (by omega) ?_
    have hne : ∀ b, b ≠ t → (s.heap.update t (Obj.mapFields (·.setIfInBounds 3 (fr.elim Value.none fun f => rawInt f)))).get? b = s.heap.get? b := fun b hb => Heap.get?_update_other _ _ (Ne.symm hb)
    have ht := Heap.get?_update_self (Obj.mapFields (·.setIfInBounds 3 (fr.elim Value.none fun f => rawInt f))) g3 (Obj.isFreed_of_fields (Obj.data_mapFields g5 _))
    obtain ⟨I', x'⟩ := I.chg (ow := xown ea (some t)) (h' := s.heap.update t (Obj.mapFields (·.setIfInBounds 3 (fr.elim Value.none fun f => rawInt f)))) (fun b o e hn => ⟨o.slots, (hne b (fun q => hn (by rw [q]; simp [xown]))).trans e, fun _ => rfl⟩) hown hb
    refine ⟨I', x', some t, ⟨oe, vs, (hne ea (Ne.symm g2)).trans h1, h2, h3, h4, h5, h6, g1, g2, _, _, ht, (Obj.cls_mapFields _ _).trans g4, Obj.data_mapFields g5 _, ?_, ?_⟩, .inl rfl, fun _ => rfl⟩
    · simpa using g6
    · have : 3 < ts.size := by omega
      simp [this]

theorem note_ok {A : Around} {E : Value → Shared → Prop} {env : Env} {outer : List Env} {L : Addr} {H : Hp} {s : Shared} {μ : List Addr} {ea : Addr} {c fl : Value} {T : Option Addr} (hA : A.frames = some (env :: outer)) (hf : env.frame = some L) (I : Inv G (env :: outer) μ H s)
    (x : ExcAt (G.raw c) s.heap ea c T fl) (hfl : T.isSome = true → fl = .none ∨ fl = rawInt L) (hb : ∀ a ∈ xown ea T, G.base.get? a = none) :
    wpAny (model G.prog G.w) A (noteFrame (.ref ea) env) (XP G (env :: outer) μ H s ea c T (rawInt L) true) E s := by
  have hown := x.own
  obtain ⟨oe, vs, h1, h2, h3, h4, h5, h6, h7⟩ := x
  have hm : ∀ a ∈ xown ea T, a ∉ μ := fun a ha q => by
    obtain ⟨o, vs, g1, g2, _⟩ := hown a ha
    obtain ⟨o', g1', hk', _⟩ := I.kind q
    rw [g1] at g1'; cases g1'; exact hk' vs g2
  have notFr : ∀ a ∈ xown ea T, a ∉ (env :: outer).filterMap (·.frame) := fun a ha q => by
    obtain ⟨o, vs, g1, g2, _⟩ := hown a ha
    obtain ⟨_, o', g1', hk'⟩ := I.frames.mem q
    rw [g1] at g1'; cases g1'; exact hk' vs g2
  -- the entry, from a heap s₁ that differs from s at T alone
  have entry : ∀ (h₁ : Heap) (head : Value) (hadNext : Bool), (∀ b, b ∉ T.toList → h₁.get? b = s.heap.get? b) → (∀ b o, s.heap.get? b = some o → ∃ o', h₁.get? b = some o' ∧ (o'.data = o.data ∨ ∃ vs ws, o'.data = .fields vs ∧ o.data = .fields ws)) →
      h₁.get? ea = some oe →
      wpAny (model G.prog G.w) A (do let a ← frameOf env; let pl ← entryPlaceOf L hadNext; let b ← EntryCells.newEntry head a .none (rawInt L) .none pl; setField (.ref ea) 1 b) (XP G (env :: outer) μ H s ea c T (rawInt L) true) E { s with heap := h₁ } := by
    intro h₁ head hadNext hsame hkinds he₁
    have fr₁ : h₁.FunFrames G.base (env :: outer) := I.frames.of_keeps fun b o e hn => by
      obtain ⟨o', e', q⟩ := hkinds b o e
      rcases q with q | ⟨vs, ws, _, q2⟩
      · exact ⟨o', e', q⟩
      · exact absurd q2 (hn ws)
    refine wpAny_bind (wpAny_frameOf_fun hA fr₁ hf fun h₂ hs₂ => ?_)
    refine wpAny_bind (wpAny_entryPlaceOf fun pl hpl => ?_)
    unfold EntryCells.newEntry newFields
    refine wpAny_bind (wpAny_newObj_type ?_ (hpl.sizeOk5 _ _ _ _ _))
    have he₂ : h₂.get? ea = some oe := (hs₂.2.1 ea (notFr ea (.head _))).trans he₁
    have he₃ := Heap.get?_push_of_some (h := h₂) { cls := .type "traceback", dict := none, data := .fields ([head, .ref L, .none, rawInt L, .none] ++ (if pl.isEmpty then List.replicate 6 Value.none else pl)).toArray } he₂
    refine wpAny_setField he₃ h4 (by omega) ?_
    generalize hN : { cls := Value.type "traceback", dict := none, data := Data.fields ([head, Value.ref L, Value.none, rawInt L, Value.none] ++ (if pl.isEmpty then List.replicate 6 Value.none else pl)).toArray : Obj } = oN
    have oNd : ∃ ts, oN.cls = .type "traceback" ∧ oN.data = .fields ts ∧ 4 < ts.size ∧ ts[3]? = some (rawInt L) := by
      subst hN
      refine ⟨_, rfl, rfl, ?_, ?_⟩
      · simp only [List.size_toArray, List.length_append, List.length_cons, List.length_nil]; omega
      · first | (simp; done) | (rcases hpl with rfl | ⟨_, _, _, _, _, _, _, rfl⟩ <;> simp)
    obtain ⟨ts, n1, n2, n3, n4⟩ := oNd
    have hfree : oN.isFreed = false := Obj.isFreed_of_fields n2
    have hTe : h₂.objs.size ≠ ea := Nat.ne_of_gt (Heap.lt_size he₂)
    rw [hN] at he₃
    have hother : ∀ b, b ≠ ea → ((h₂.push oN).update ea (Obj.mapFields (·.setIfInBounds 1 (Value.ref h₂.objs.size)))).get? b = (h₂.push oN).get? b := fun b hb => Heap.get?_update_other _ _ (Ne.symm hb)
    have hea := Heap.get?_update_self (Obj.mapFields (·.setIfInBounds 1 (Value.ref h₂.objs.size))) he₃ (Obj.isFreed_of_fields (Obj.data_mapFields h4 _))
    have hTn := (hother h₂.objs.size hTe).trans (Heap.get?_push_size h₂ hfree)
    have hfresh : s.heap.get? h₂.objs.size = none := by
      cases q : s.heap.get? h₂.objs.size with
      | none => rfl
      | some o =>
        obtain ⟨o', e', _⟩ := hkinds _ o q
        obtain ⟨sl, e2⟩ := hs₂.2.2 _ o' e'
        exact absurd (Heap.lt_size e2) (Nat.lt_irrefl _)
    obtain ⟨I', x'⟩ := I.chg (ow := xown ea T) (h' := (h₂.push oN).update ea (Obj.mapFields (·.setIfInBounds 1 (Value.ref h₂.objs.size)))) (fun b o e hn => by
      have hbe : b ≠ ea := fun q => hn (by rw [q]; exact .head _)
      have hbT : b ∉ T.toList := fun q => hn (.tail _ q)
      have e1 : h₁.get? b = some o := (hsame b hbT).trans e
      by_cases hfr : b ∈ (env :: outer).filterMap (·.frame)
      · obtain ⟨sl, e2⟩ := hs₂.2.2 b o e1
        exact ⟨sl, (hother b hbe).trans (Heap.get?_push_of_some _ e2), fun q => absurd hfr q⟩
      · exact ⟨o.slots, (hother b hbe).trans (Heap.get?_push_of_some _ ((hs₂.2.1 b hfr).trans e1)), fun _ => rfl⟩) hown hb
    refine ⟨I', x', some h₂.objs.size, ⟨_, _, hea, (Obj.cls_mapFields _ _).trans h2, h3, Obj.data_mapFields h4 _, ?_, fun hr => ?_, ?_, hTe, oN, ts, hTn, n1, n2, n3, n4⟩, .inr ⟨_, rfl, hfresh⟩, fun _ => rfl⟩
    · simpa using h5
    · rw [Array.getElem?_setIfInBounds_ne (by decide)]; exact h6 hr
    · have : 1 < vs.size := by omega
      simp [this]
  unfold noteFrame
  simp only [hf]
  cases T with
  | none =>
    refine wpAny_bind (wpAny_field h1 h4 h7 ?_)
    rw [if_neg (by decide)]
    exact entry s.heap .none false (fun _ _ => rfl) (fun b o e => ⟨o, e, .inl rfl⟩) h1
  | some t =>
    obtain ⟨g1, g2, oT, ts, g3, g4, g5, g6, g7⟩ := h7
    refine wpAny_bind (wpAny_field h1 h4 g1 ?_)
    rw [if_pos (show (Value.ref t != Value.none) = true from by simp)]
    refine wpAny_bind (wpAny_field g3 g5 g7 ?_)
    rcases hfl rfl with rfl | rfl
    · rw [if_neg (show ¬ ((Value.none == rawInt L) = true) from by simp [rawInt])]
      refine wpAny_bind (wpAny_setField g3 g5 (by omega) ?_)
      have hne : ∀ b, b ≠ t → (s.heap.update t (Obj.mapFields (·.setIfInBounds 3 Value.none))).get? b = s.heap.get? b := fun b hb => Heap.get?_update_other _ _ (Ne.symm hb)
      have ht := Heap.get?_update_self (Obj.mapFields (·.setIfInBounds 3 Value.none)) g3 (Obj.isFreed_of_fields (Obj.data_mapFields g5 _))
      refine entry _ (.ref t) true (fun b hb => hne b (fun q => hb (by rw [q]; simp))) (fun b o e => ?_) ((hne ea (Ne.symm g2)).trans h1)
      by_cases q : b = t
      · subst q
        rw [g3] at e; cases e
        exact ⟨_, ht, .inr ⟨_, _, Obj.data_mapFields g5 _, g5⟩⟩
      · exact ⟨o, (hne b q).trans e, .inl rfl⟩
    · rw [if_pos (show (rawInt L == rawInt L) = true from by simp)]
      exact wpAny_pure ⟨I, Ext.refl hm, some t, ⟨oe, vs, h1, h2, h3, h4, h5, h6, g1, g2, oT, ts, g3, g4, g5, g6, g7⟩, .inl rfl, fun _ => rfl⟩
end

end YV
end

section
set_option autoImplicit false
set_option linter.unusedVariables false
set_option maxRecDepth 10000
namespace YV
open PySem PySem.Calls PyProof.Rows PySem.W

noncomputable def constD : Const → Option D
  | .none => some .none
  | .bool b => some (.bool b)
  | .int i => some (.int i)
  | .str s => some (.str s)
  | _ => none

/-- the class that a name in 'raise' or 'except' means -/
noncomputable def excD (p : Pg) (sc : Str → Option NK) (x : Str) : Option Value := match sc x, p.gl x with
  | some .glob, some (.glob C) => if p.exc (.ref C) then some (.ref C) else none
  | _, _ => none

noncomputable def notComp : Expr → Bool
  | .ListComp .. | .SetComp .. | .DictComp .. => false
  | _ => true
noncomputable def notSlice : Expr → Bool
  | .Slice .. => false
  | _ => true
noncomputable def storeOk (nm : List (Str × NameKind)) (x : Str) : Bool := nm.lookup x == some .local || nm.lookup x == some .cell
noncomputable def tgtOk (nm : List (Str × NameKind)) : Expr → Bool
  | .Name x _ => storeOk nm x
  | .Tuple es _ _ => match names? es with | some xs => xs.all (storeOk nm) | none => false
  | _ => false

/-- the forms of a handler's suite -/
inductive SuF where
  | asg (x : Str) (px : Pos) (k : Const) (n : Nat) (cp pos : Pos)
  | flag (o : Str) (po : Pos) (name : Str) (pa : Pos) (k : Const) (n : Nat) (cp pos rp : Pos)
  | rai (x : Str) (px : Pos) (m : Str) (n : Nat) (cp pc pos : Pos)
noncomputable def SuF.st : SuF → List Stmt
  | .asg x px k n cp pos => [.Assign [.Name x px] (.Constant k n cp) pos]
  | .flag o po name pa k n cp pos rp => [.Assign [.Attribute (.Name o po) name pa] (.Constant k n cp) pos, .Raise none none rp]
  | .rai x px m n cp pc pos => [.Raise (some (.Call (.Name x px) [.Constant (.str m) n cp] [] pc)) none pos]
noncomputable def awF (p : Pg) (nm : List (Str × NameKind)) (c : Value) (loc : Loc) (H : Hp) (Q : Fl → Loc → Hp → Prop) (X : Value → Loc → Hp → Prop) : SuF → Prop
  | .asg x _ k _ _ _ => storeOk nm x = true ∧ ∃ d, constD k = some d ∧ Q .next (setL x d loc) H
  | .flag o _ name _ k _ _ _ _ => ∃ d C i fs, constD k = some d ∧ nmD p (kcOf nm) loc o = some (.inst C i) ∧ H[i]? = some (.dict fs) ∧ fs.length ≤ 1000 ∧ p.sfd C name = true ∧ X c loc (H.set i (.dict (setL name d fs)))
  | .rai x _ _ _ _ _ _ => ∃ C, excD p (kcOf nm) x = some (.ref C) ∧ p.raw c = true ∧ p.raw (.ref C) = false ∧ X (.ref C) loc H
/-- the suite of a handler -/
noncomputable def awU (p : Pg) (nm : List (Str × NameKind)) (c : Value) (suite : List Stmt) (loc : Loc) (H : Hp) (Q : Fl → Loc → Hp → Prop) (X : Value → Loc → Hp → Prop) : Prop := ∃ f : SuF, suite = f.st ∧ awF p nm c loc H Q X f

noncomputable def awH (p : Pg) (nm : List (Str × NameKind)) (c : Value) : List ExceptHandler → Loc → Hp → (Fl → Loc → Hp → Prop) → (Value → Loc → Hp → Prop) → Prop
  | [], _, _, _, _ => False
  | hd :: rest, loc, H, Q, X => ∃ x px b suite pos, hd = .ExceptHandler (some (.Name x px)) none (b :: suite) pos ∧ ∃ c', excD p (kcOf nm) x = some c' ∧ ∃ hit, p.sub c c' = some hit ∧
      if hit then awU p nm c (b :: suite) loc H Q X else awH p nm c rest loc H Q X

mutual
noncomputable def awS (p : Pg) (nm : List (Str × NameKind)) : Stmt → Loc → Hp → (Fl → Loc → Hp → Prop) → (Value → Loc → Hp → Prop) → Prop
  | .Expr e _, loc, H, Q, X => notComp e = true ∧ awE p (kcOf nm) e loc H (fun _ H₁ => Q .next loc H₁) (fun c H₁ => X c loc H₁)
  | .Return (some e) _, loc, H, Q, X => awE p (kcOf nm) e loc H (fun d H₁ => Q (.ret d) loc H₁) (fun c H₁ => X c loc H₁)
  | .Return none _, loc, H, Q, _ => Q (.ret .none) loc H
  | .Break _, loc, H, Q, _ => Q .brk loc H
  | .Continue _, loc, H, Q, _ => Q .cont loc H
  | .Assign [.Name x _] e _, loc, H, Q, X => storeOk nm x = true ∧ awE p (kcOf nm) e loc H (fun d H₁ => Q .next (setL x d loc) H₁) (fun c H₁ => X c loc H₁)
  | .Assign [.Attribute o name _] e _, loc, H, Q, X => awE p (kcOf nm) e loc H (fun d H₁ => awE p (kcOf nm) o loc H₁ (fun a H₂ => match a with
      | .inst C i => p.sfd C name = true ∧ ∃ fs, H₂[i]? = some (.dict fs) ∧ fs.length ≤ 1000 ∧ Q .next loc (H₂.set i (.dict (setL name d fs)))
      | _ => False) (fun c H₁ => X c loc H₁)) (fun c H₁ => X c loc H₁)
  | .Assign [.Subscript o i _] e _, loc, H, Q, X => notSlice i = true ∧ awE p (kcOf nm) e loc H (fun d H₁ => awE p (kcOf nm) o loc H₁ (fun a H₂ => awE p (kcOf nm) i loc H₂ (fun k H₃ => match a, k with
      | .mref j, .int k => ∃ l, H₃[j]? = some (.lst l) ∧ 0 ≤ k ∧ k.toNat < l.length ∧ Q .next loc (H₃.set j (.lst (l.set k.toNat d)))
      | _, _ => False) (fun c H₁ => X c loc H₁)) (fun c H₁ => X c loc H₁)) (fun c H₁ => X c loc H₁)
  | .If t b e _, loc, H, Q, X => awT p (kcOf nm) t (fun K => awE p (kcOf nm) t loc H K fun c H₁ => X c loc H₁) loc H (fun c H₁ => if c then awSs p nm b loc H₁ Q X else awSs p nm e loc H₁ Q X) (fun c H₁ => X c loc H₁)
  | .For t it body [] _, loc, H, Q, X => (plainE it && tgtOk nm t) = true ∧ awE p (kcOf nm) it loc H (fun a H₁ => ∃ items, itemsD (view H₁ a) = some items ∧
      forW (tgtD t) (fun loc₁ H₂ K => awSs p nm body loc₁ H₂ K X) (chkD H₁ a) items loc H₁ Q) (fun c H₁ => X c loc H₁)
  | .Raise exc cause _, loc, H, _, X => ∃ x px m n cp pc c, exc = some (.Call (.Name x px) [.Constant (.str m) n cp] [] pc) ∧ cause = none ∧ excD p (kcOf nm) x = some c ∧ X c loc H
  | .Try body hs [] [] _, loc, H, Q, X => hs.isEmpty = false ∧ awSs p nm body loc H Q (fun c loc₁ H₁ => awH p nm c hs loc₁ H₁ Q X)
  | _, _, _, _, _ => False
noncomputable def awSs (p : Pg) (nm : List (Str × NameKind)) : List Stmt → Loc → Hp → (Fl → Loc → Hp → Prop) → (Value → Loc → Hp → Prop) → Prop
  | [], loc, H, Q, _ => Q .next loc H
  | st :: r, loc, H, Q, X => awS p nm st loc H (fun f loc₁ H₁ => match f with | .next => awSs p nm r loc₁ H₁ Q X | f => Q f loc₁ H₁) X
end


/-- how a statement ends -/
inductive FlRep (h : Heap) (μ : List Addr) : Flow → Fl → Prop
  | next : FlRep h μ .next .next
  | brk : FlRep h μ .brk .brk
  | cont : FlRep h μ .cont .cont
  | ret {v : Value} {d : D} : Rep h μ v d → FlRep h μ (.ret v) (.ret d)

inductive SsP (G : Gl) (l : List Env) (env : Env) (μ : List Addr) (h : Heap) (Q : Fl → Loc → Hp → Prop) (f : Flow) (s' : Shared) : Prop
  | mk (μ' : List Addr) (H' : Hp) (loc' : Loc) (fl : Fl) : Inv G l μ' H' s' → Ext true (own env) h μ s'.heap μ' → Fok G env loc' μ' s'.heap → FlRep s'.heap μ' f fl → Q fl loc' H' → SsP G l env μ h Q f s'

noncomputable def okG (L : Addr) (T : Option Addr) (fl : Value) : Prop := T.isSome = true → fl = .none ∨ fl = rawInt L
noncomputable def okF (f : Value) (T : Option Addr) (fl : Value) : Prop := T.isSome = true ∧ fl = f

/-- an exception flies out of a statement: hi is the heap before the simple statement that it came from -/
inductive SxP (G : Gl) (l : List Env) (env : Env) (μ : List Addr) (h : Heap) (ok : Option Addr → Value → Prop) (X : Value → Loc → Hp → Prop) (e : Value) (s' : Shared) : Prop
  | mk (hi : Heap) (μi : List Addr) (loc : Loc) (H' : Hp) (μ' : List Addr) (c : Value) (T : Option Addr) (fl : Value) (ea : Addr) : Ext true (own env) h μ hi μi → Fok G env loc μi hi → (∀ c v, hi.IsCell c v → c ∉ μi) → Ext true [] hi μi s'.heap μ' → Inv G l μ' H' s' → e = .ref ea →
    ExcAt (G.raw c) s'.heap ea c T fl → ok T fl → hi.get? ea = none → (∀ t, T = some t → hi.get? t = none) → (∀ a ∈ xown ea T, G.base.get? a = none) → X c loc H' → SxP G l env μ h ok X e s'

section
variable {G : Gl} {l : List Env} {k : Nat} {p : Pg}

theorem SxP.back {env : Env} {μ μ₁ : List Addr} {h h₁ : Heap} {ok : Option Addr → Value → Prop} {X : Value → Loc → Hp → Prop} {e : Value} {s' : Shared} (y : Ext true (own env) h μ h₁ μ₁) (x : SxP G l env μ₁ h₁ ok X e s') : SxP G l env μ h ok X e s' := by
  obtain ⟨hi, μi, loc, H', μ', c, T, fl, ea, x1, x2, x3, x4, x5, x6, x7, x8, x9, x10, x11, x12⟩ := x
  exact ⟨hi, μi, loc, H', μ', c, T, fl, ea, y.trans x1, x2, x3, x4, x5, x6, x7, x8, x9, x10, x11, x12⟩
theorem SxP.weaken {env : Env} {μ : List Addr} {h : Heap} {ok ok' : Option Addr → Value → Prop} {X X' : Value → Loc → Hp → Prop} {e : Value} {s' : Shared} (hk : ∀ T fl, ok T fl → ok' T fl) (hX : ∀ c loc H, X c loc H → X' c loc H) (x : SxP G l env μ h ok X e s') : SxP G l env μ h ok' X' e s' := by
  obtain ⟨hi, μi, loc, H', μ', c, T, fl, ea, x1, x2, x3, x4, x5, x6, x7, x8, x9, x10, x11, x12⟩ := x
  exact ⟨hi, μi, loc, H', μ', c, T, fl, ea, x1, x2, x3, x4, x5, x6, x7, hk _ _ x8, x9, x10, x11, hX _ _ _ x12⟩
theorem okF.g {L : Addr} {f : Value} (hf : f = .none ∨ f = rawInt L) {T : Option Addr} {fl : Value} (x : okF f T fl) : okG L T fl := fun _ => x.2 ▸ hf

theorem none_of_ext {own : List Addr} {h h' : Heap} {μ μ' : List Addr} (x : Ext true own h μ h' μ') {a : Addr} (q : h'.get? a = none) (ho : a ∉ own) : h.get? a = none := by
  cases e : h.get? a with
  | none => rfl
  | some o => obtain ⟨o', e'⟩ := x.dom a o e ho; rw [q] at e'; cases e'

/-- an act upon the exception -/
theorem SxP.act {A : Around} {E : Value → Shared → Prop} {env : Env} {μ : List Addr} {h : Heap} {ok : Option Addr → Value → Prop} {X : Value → Loc → Hp → Prop} {e fl' : Value} {s' : Shared} {act : Value → Sem Unit} (x : SxP G l env μ h ok X e s')
    (ha : ∀ ea c T fl μ' H', Inv G l μ' H' s' → ExcAt (G.raw c) s'.heap ea c T fl → ok T fl → (∀ a ∈ xown ea T, G.base.get? a = none) → wpAny (model G.prog G.w) A (act (.ref ea)) (XP G l μ' H' s' ea c T fl' true) E s') :
    wpAny (model G.prog G.w) A (act e) (fun _ s'' => SxP G l env μ h (okF fl') X e s'') E s' := by
  obtain ⟨hi, μi, loc, H', μ', c, T, fl, ea, x1, x2, x3, x4, x5, rfl, x7, x8, x9, x10, x11, x12⟩ := x
  refine wpAny_mono (ha ea c T fl μ' H' x5 x7 x8 x11) (fun _ s'' q => ?_) fun _ _ y => y
  obtain ⟨I'', y, T', z1, z2, z3⟩ := q
  have z : Ext true [] hi μi s''.heap μ' := by
    have z0 : Ext true (xown ea T) hi μi s''.heap μ' := (x4.owned (fun _ h => nomatch h) y.apart).trans y
    cases T with
    | none => exact z0.dropFresh x9
    | some t => exact (z0.dropFresh x9).dropFresh (x10 t rfl)
  have hT : ∀ t, T' = some t → hi.get? t = none ∧ G.base.get? t = none := fun t ht => by
    rcases z2 with rfl | ⟨t', q1, q2⟩
    · exact ⟨x10 t ht, x11 t (by rw [ht]; simp [xown])⟩
    · rw [q1] at ht; cases ht
      refine ⟨none_of_ext x4 q2 (by simp), ?_⟩
      exact none_back x5.stays q2
  refine ⟨hi, μi, loc, H', μ', c, T', fl', ea, x1, x2, x3, z, I'', rfl, z1, ⟨z3 rfl, rfl⟩, x9, fun t ht => (hT t ht).1, fun a ha => ?_, x12⟩
  rcases List.mem_cons.mp ha with rfl | ha
  · exact x11 _ (.head _)
  · cases T' with
    | none => simp at ha
    | some t => simp at ha; subst ha; exact (hT _ rfl).2

variable {env : Env} {outer : List Env} {L : Addr} {A : Around} {E : Value → Shared → Prop} {μ : List Addr} {h : Heap} {X : Value → Loc → Hp → Prop} {e : Value} {s' : Shared}

theorem SxP.note (hA : A.frames = some (env :: outer)) (hf : env.frame = some L) (x : SxP G (env :: outer) env μ h (okG L) X e s') :
    wpAny (model G.prog G.w) A (noteFrame e env) (fun _ s'' => SxP G (env :: outer) env μ h (okF (rawInt L)) X e s'') E s' :=
  x.act (act := fun e => noteFrame e env) fun _ _ _ _ _ _ I xe ok hb => note_ok hA hf I xe ok hb
theorem SxP.flight {f : Value} (fr : Option Addr) (x : SxP G l env μ h (okF f) X e s') :
    wpAny (model G.prog G.w) A (setFlight e fr) (fun _ s'' => SxP G l env μ h (okF (fr.elim .none fun f => rawInt f)) X e s'') E s' :=
  x.act (act := fun e => setFlight e fr) fun ea c T fl μ' H' I xe ok hb => by
    have := flight_ok (A := A) (E := E) I xe hb fr
    rw [ok.1] at this
    exact this
theorem SxP.noted (hA : A.frames = some (env :: outer)) (hf : env.frame = some L) (x : SxP G (env :: outer) env μ h (okG L) X e s') (hE : ∀ s'', SxP G (env :: outer) env μ h (okF (rawInt L)) X e s'' → E e s'') :
    notedBy (model G.prog G.w) A env E e s' := wpAny_mono (x.note hA hf) (fun _ _ q => hE _ q) fun _ _ y => y
theorem SxP.cameBack {f : Value} (x : SxP G l env μ h (okF f) X e s') (hf : env.frame = some L) : cameBackBy (model G.prog G.w) A env (SxP G l env μ h (okG L) X) e s' := by
  have x' := x
  obtain ⟨hi, μi, loc, H', μ', c, T, fl, ea, x1, x2, x3, x4, x5, rfl, ⟨oe, vs, h1, h2, h3, h4, h5, h6, h7⟩, ⟨x8, _⟩, _⟩ := x
  cases T with
  | none => cases x8
  | some t =>
    unfold cameBackBy
    refine wpAny_bind (wpAny_field h1 h4 h7.1 ?_)
    rw [if_neg (show ¬ ((Value.ref t == Value.none) = true) from by simp)]
    refine wpAny_mono (x'.flight env.frame) (fun _ s'' q => ?_) fun _ _ y => y
    rw [hf] at q
    exact q.weaken (fun _ _ z => z.g (.inr rfl)) fun _ _ _ z => z

theorem SxP.ofEv {loc : Loc} {H : Hp} {s : Shared} (I : Inv G l μ H s) (F : Fok G env loc μ s.heap) (x : EvX G l μ s (fun c H₁ => X c loc H₁) e s') : SxP G l env μ s.heap (okG L) X e s' := by
  obtain ⟨μ', H', c, I', x1, ⟨ea, T, rfl, y1, y2, y3⟩, q⟩ := x
  refine ⟨s.heap, μ, loc, H', μ', c, some T, .none, ea, Ext.refl (F.own I).2, F, I.cell, x1, I', rfl, y1, fun _ => .inl rfl, y2, fun t ht => by cases ht; exact y3, fun a ha => ?_, q⟩
  have dn : ∀ a, s.heap.get? a = none → G.base.get? a = none := fun a q => none_back I.stays q
  rcases List.mem_cons.mp ha with rfl | ha
  · exact dn _ y2
  · simp at ha; subst ha; exact dn _ y3
end

noncomputable def SS (G : Gl) (k : Nat) (p : Pg) (st : Stmt) : Prop := ∀ {A : Around} {env : Env} {outer : List Env} {L : Addr} {loc : Loc} {H : Hp} {Q : Fl → Loc → Hp → Prop} {X : Value → Loc → Hp → Prop} {s : Shared} {μ : List Addr},
  AOk A (env :: outer) k → env.frame = some L → Inv G (env :: outer) μ H s → Fok G env loc μ s.heap → awS p env.scope.names st loc H Q X →
    wpAny (model G.prog G.w) A (exec st env) (SsP G (env :: outer) env μ s.heap Q) (SxP G (env :: outer) env μ s.heap (okG L) X) s
noncomputable def SSs (G : Gl) (k : Nat) (p : Pg) (sts : List Stmt) : Prop := ∀ {A : Around} {env : Env} {outer : List Env} {L : Addr} {loc : Loc} {H : Hp} {Q : Fl → Loc → Hp → Prop} {X : Value → Loc → Hp → Prop} {s : Shared} {μ : List Addr},
  AOk A (env :: outer) k → env.frame = some L → Inv G (env :: outer) μ H s → Fok G env loc μ s.heap → awSs p env.scope.names sts loc H Q X →
    wpAny (model G.prog G.w) A (execs sts env) (SsP G (env :: outer) env μ s.heap Q) (SxP G (env :: outer) env μ s.heap (okG L) X) s

section
variable {G : Gl} {l : List Env} {k : Nat} {p : Pg} {A : Around} {env : Env} {outer : List Env}

theorem SsP.back {env : Env} {μ μ₁ : List Addr} {h h₁ : Heap} {Q : Fl → Loc → Hp → Prop} {f : Flow} {s' : Shared} (y : Ext true (own env) h μ h₁ μ₁) (x : SsP G l env μ₁ h₁ Q f s') : SsP G l env μ h Q f s' := by
  obtain ⟨μ', H', loc', fl, I, x1, x2, x3, x4⟩ := x
  exact ⟨μ', H', loc', fl, I, y.trans x1, x2, x3, x4⟩

theorem Ext.toOwn {env : Env} {loc : Loc} {μ μ₁ : List Addr} {H H₁ : Hp} {s s₁ : Shared} (F : Fok G env loc μ s.heap) (I : Inv G l μ H s) (I₁ : Inv G l μ₁ H₁ s₁) (x : Ext true [] s.heap μ s₁.heap μ₁) : Ext true (own env) s.heap μ s₁.heap μ₁ :=
  x.owned (fun _ h => nomatch h) ((I.fok F x).own I₁).2

theorem SE.st {e : Expr} (he : SE G (env :: outer) k p e) {H₀ H : Hp} {Q : D → Hp → Prop} {X : Value → Loc → Hp → Prop} {s₀ s : Shared} {μ₀ μ : List Addr} {loc : Loc} {L : Addr} (hA : AOk A (env :: outer) k) (I₀ : Inv G (env :: outer) μ₀ H₀ s₀) (F₀ : Fok G env loc μ₀ s₀.heap) (x : Ext true [] s₀.heap μ₀ s.heap μ)
    (I : Inv G (env :: outer) μ H s) (F : Fok G env loc μ s.heap) (h : awE p (kcOf env.scope.names) e loc H Q fun c H₁ => X c loc H₁) {R : Value → Shared → Prop}
    (r : ∀ v s₁ μ₁ H₁ d, Inv G (env :: outer) μ₁ H₁ s₁ → Ext true [] s.heap μ s₁.heap μ₁ → Ext true [] s₀.heap μ₀ s₁.heap μ₁ → Fok G env loc μ₁ s₁.heap → Rep s₁.heap μ₁ v d → Q d H₁ → R v s₁) :
    wpAny (model G.prog G.w) A (eval e env) R (SxP G (env :: outer) env μ₀ s₀.heap (okG L) X) s :=
  wpAny_mono (he.go hA x I F h r) (fun _ _ y => y) fun _ _ h₁ => SxP.ofEv I₀ F₀ h₁
theorem SsP.mk' {f : Flow} {fl : Fl} {loc loc' : Loc} {H H₁ : Hp} {Q : Fl → Loc → Hp → Prop} {s s₁ : Shared} {μ μ₁ : List Addr} (I : Inv G l μ H s) (F : Fok G env loc μ s.heap) (I₁ : Inv G l μ₁ H₁ s₁) (x : Ext true [] s.heap μ s₁.heap μ₁) (F₁ : Fok G env loc' μ₁ s₁.heap) (hf : FlRep s₁.heap μ₁ f fl) (q : Q fl loc' H₁) : SsP G l env μ s.heap Q f s₁ :=
  ⟨μ₁, H₁, loc', fl, I₁, x.toOwn F I I₁, F₁, hf, q⟩

theorem ss_Expr (P : POk G k p) (e : Expr) (pos : Pos) : SS G k p (.Expr e pos) := by
  intro A env outer L loc H Q X s μ hA hf I F h
  refine wpAny_Expr_any (SE.st (soundE P e) hA I F Ext.refl0 I F h.2 fun v s₁ μ₁ H₁ d I₁ x₁ _ F₁ r₁ q₁ => SsP.mk' I F I₁ x₁ F₁ .next q₁) ?_ ?_
  · unfold interactive; rw [F.kind]; rfl
  · have hn := h.1
    cases e <;> first | rfl | cases hn

theorem ss_Return (P : POk G k p) (e : Option Expr) (pos : Pos) : SS G k p (.Return e pos) := by
  intro A env outer L loc H Q X s μ hA hf I F h
  cases e with
  | none => exact wpAny_Return_none (SsP.mk' I F I Ext.refl0 F (.ret .none) h)
  | some e => exact wpAny_Return_some (SE.st (soundE P e) hA I F Ext.refl0 I F h fun v s₁ μ₁ H₁ d I₁ x₁ _ F₁ r₁ q₁ => SsP.mk' I F I₁ x₁ F₁ (.ret r₁) q₁)

theorem ss_Break (pos : Pos) : SS G k p (.Break pos) := by
  intro A env outer L loc H Q X s μ hA hf I F h
  exact wpAny_Break (SsP.mk' I F I Ext.refl0 F .brk h)
theorem ss_Continue (pos : Pos) : SS G k p (.Continue pos) := by
  intro A env outer L loc H Q X s μ hA hf I F h
  exact wpAny_Continue (SsP.mk' I F I Ext.refl0 F .cont h)

theorem SSs.back {sts : List Stmt} (hb : SSs G k p sts) {L : Addr} {loc : Loc} {H : Hp} {Q : Fl → Loc → Hp → Prop} {X : Value → Loc → Hp → Prop} {s : Shared} {h₀ : Heap} {μ₀ μ : List Addr} (hA : AOk A (env :: outer) k) (hf : env.frame = some L) (y : Ext true (own env) h₀ μ₀ s.heap μ) (I : Inv G (env :: outer) μ H s) (F : Fok G env loc μ s.heap)
    (h : awSs p env.scope.names sts loc H Q X) : wpAny (model G.prog G.w) A (execs sts env) (SsP G (env :: outer) env μ₀ h₀ Q) (SxP G (env :: outer) env μ₀ h₀ (okG L) X) s :=
  wpAny_mono (hb hA hf I F h) (fun _ _ q => q.back y) fun _ _ q => q.back y

theorem ss_If (P : POk G k p) {t : Expr} {b e : List Stmt} {pos : Pos} (hb : SSs G k p b) (he : SSs G k p e) : SS G k p (.If t b e pos) := by
  intro A env outer L loc H Q X s μ hA hf I F h
  refine wpAny_If (wpAny_mono (ST.go (soundT P t) hA Ext.refl0 I F h fun c s₁ μ₁ H₁ I₁ x₁ F₁ q₁ => ?_) (fun _ _ y => y) (fun e s₁ h₁ => SxP.ofEv I F h₁))
  cases c with
  | true => exact hb.back hA hf (x₁.toOwn F I I₁) I₁ F₁ q₁
  | false => exact he.back hA hf (x₁.toOwn F I I₁) I₁ F₁ q₁

theorem sss_nil : SSs G k p [] := by
  intro A env outer L loc H Q X s μ hA hf I F h
  exact wpAny_execs_nil (SsP.mk' I F I Ext.refl0 F .next h)
theorem sss_cons {st : Stmt} {r : List Stmt} (hs : SS G k p st) (hr : SSs G k p r) : SSs G k p (st :: r) := by
  intro A env outer L loc H Q X s μ hA hf I F h
  refine wpAny_execs_cons (wpAny_mono (hs hA hf I F h) (fun f s₁ h₁ => ?_) fun _ _ q => q)
  obtain ⟨μ₁, H₁, loc₁, fl, I₁, x₁, F₁, hf₁, q₁⟩ := h₁
  cases hf₁ with
  | next => exact hr.back hA hf x₁ I₁ F₁ q₁
  | brk => exact ⟨μ₁, H₁, loc₁, .brk, I₁, x₁, F₁, .brk, q₁⟩
  | cont => exact ⟨μ₁, H₁, loc₁, .cont, I₁, x₁, F₁, .cont, q₁⟩
  | ret r => exact ⟨μ₁, H₁, loc₁, _, I₁, x₁, F₁, .ret r, q₁⟩

theorem storeOk_of {nm : List (Str × NameKind)} {x : Str} (h : storeOk nm x = true) : nm.lookup x = some .local ∨ nm.lookup x = some .cell := by
  unfold storeOk at h
  simpa using h

theorem own_fresh {loc : Loc} {μ : List Addr} {h : Heap} (F : Fok G env loc μ h) {C : Addr} (hC : h.get? C = none) : C ∉ own env := fun z => by
  rcases List.mem_cons.mp z with rfl | z
  · obtain ⟨m, ⟨o, _, _, ho, _⟩, _⟩ := F.ns; rw [hC] at ho; cases ho
  · obtain ⟨q, hq, rfl⟩ := List.mem_map.mp z
    obtain ⟨⟨w, o, ho, _⟩, _⟩ := F.cellAll q hq
    rw [hC] at ho; cases ho
theorem Fok.past {loc : Loc} {μ μ' : List Addr} {h h' : Heap} {C : Addr} (F : Fok G env loc μ h) (x : Ext true [C] h μ h' μ') (ok : OwnOk [C] h) (hC : C ∉ YV.own env) (hc : ∀ c v, h.IsCell c v → c ∉ μ) : Fok G env loc μ' h' :=
  F.extOwn x ok (fun z => hC (by rw [← List.mem_singleton.mp z]; exact .head _)) (fun q hq z => hC (by rw [← List.mem_singleton.mp z]; exact .tail _ (List.mem_map.mpr ⟨q, hq, rfl⟩))) hc

theorem ss_AssignName (P : POk G k p) (x : Str) (px : Pos) (e : Expr) (pos : Pos) : SS G k p (.Assign [.Name x px] e pos) := by
  intro A env outer L loc H Q X s μ hA hf I F h
  obtain ⟨hst, h⟩ := h
  have hst := storeOk_of hst
  have plain : swapsWith e (some (.Name x px)) pos.line env = pure false → wpAny (model G.prog G.w) A (exec (.Assign [.Name x px] e pos) env) (SsP G (env :: outer) env μ s.heap Q) (SxP G (env :: outer) env μ s.heap (okG L) X) s := fun hsw =>
    wpAny_Assign_Name (SE.st (soundE P e) hA I F Ext.refl0 I F h fun v s₁ μ₁ H₁ d I₁ x₁ _ F₁ r₁ q₁ => wpAny_mono (store_ok I₁ F₁ r₁ hst) (fun _ s₂ h₂ => ⟨μ₁, H₁, _, .next, h₂.1, (x₁.toOwn F I I₁).trans h₂.2.1, h₂.2.2, .next, q₁⟩) fun _ _ q => q) hsw
  cases e with
  | ListComp elt gens scope lpos =>
    obtain ⟨b, hb⟩ : ∃ b, swapsWith (.ListComp elt gens scope lpos) (some (.Name x px)) pos.line env = pure b := ⟨_, rfl⟩
    cases b with
    | false => exact plain hb
    | true =>
      clear plain
      obtain ⟨y, py, iter, ifs, rfl⟩ := comp_form h
      rw [exec_Assign_Name_used _ _ _ _ hb]
      refine wpAny_bind (wpAny_standAt (wpAny_bind ?_))
      show wpAny _ A (do let _ ← comprehension (.ListComp elt [⟨.Name y py, iter, ifs, 0⟩] scope lpos) scope env _ (newList []) false (eval iter env) (some (assign (.Name x px) env))) _ _ s
      refine wpAny_bind (wpAny_mono (comp_front (use := some (assign (.Name x px) env)) (R := fun _ s' => SsP G (env :: outer) env μ s.heap Q .next s') (soundE P iter) (soundE P elt) (fun c _ => soundT P c) hA I F h (fun e s₁ h₁ => SxP.ofEv I F h₁)
        fun s₁ μ₁ H₁ D C s' m μ₂ H₂ d I₁ x₁ F₁ hC1 I₂ x₂ hn hC₂ hCb r₂ q₂ => ?_) (fun _ s' hq => wpAny_pure (wpAny_pure hq)) fun _ _ e => e)
      have hCo := own_fresh F₁ hC1
      have okC1 : OwnOk [C] s₁.heap := fun a ha o e => by rw [List.mem_singleton.mp ha, hC1] at e; cases e
      show wpAny _ A (assign (.Name x px) env (.ref D)) _ _ _
      refine wpAny_assign_Name (wpAny_mono (store_ok I₂ (F₁.past x₂ okC1 hCo I₁.cell) r₂ hst) (fun _ s₃ h₃ => ?_) fun _ _ q => q)
      obtain ⟨I₃, x₃, F₃⟩ := h₃
      have hn₃ : s₃.heap.Ns C m := ns_slots hn fun o e => by
        obtain ⟨sl, e2, _⟩ := x₃.keep _ _ e hC₂ hCo (.inl rfl)
        exact ⟨sl, e2⟩
      refine ⟨m, hn₃, fun h' hs => ?_⟩
      obtain ⟨I₄, x₄⟩ := I₃.drop hC₂ hCb (fun env he => I₁.frameNe hC1 env he) hs.extBut (OwnOk.ns hn₃)
      have ap2 : ∀ a ∈ C :: own env, a ∉ μ₂ := fun a ha => by
        rcases List.mem_cons.mp ha with rfl | ha
        · exact hC₂
        · exact (F₃.own I₃).2 a ha
      have one : ∀ a ∈ [C], a ∈ C :: own env := fun a ha => by rw [List.mem_singleton.mp ha]; exact .head _
      have y : Ext true (C :: own env) s₁.heap μ₁ h' μ₂ := ((x₂.owned one ap2).trans (x₃.owned (fun a ha => .tail _ ha) ap2)).trans (x₄.owned one ap2)
      exact ⟨μ₂, H₂, _, .next, I₄, (x₁.toOwn F I I₁).trans (y.dropFresh hC1), F₃.past x₄ (OwnOk.ns hn₃) hCo I₃.cell, .next, q₂⟩
  | SetComp _ _ _ _ => exact False.elim h
  | DictComp _ _ _ _ _ => exact False.elim h
  | _ => exact plain rfl
end

end YV
end

section
set_option autoImplicit false
set_option linter.unusedVariables false
set_option maxRecDepth 10000
namespace YV
open PySem PySem.Calls PyProof.Rows PySem.W

section
variable {G : Gl} {l : List Env} {k : Nat} {p : Pg}

theorem within_fs {m : Str → Option Value} {fs : List (Str × D)} {h : Heap} {μ : List Addr} (hm : ∀ y, match getL y fs with | some d => ∃ v, m y = some v ∧ Rep h μ v d | none => m y = none) : PySem.Within m (fs.map (·.1)) := by
  intro y hy
  have := hm y
  cases hg : getL y fs with
  | none => rw [hg] at this; exact absurd this hy
  | some d =>
    clear hm this hy
    induction fs with
    | nil => cases hg
    | cons q r ih =>
      obtain ⟨z, e⟩ := q
      simp only [getL] at hg
      by_cases hz : z = y
      · subst hz; simp
      · rw [if_neg hz] at hg; exact List.mem_cons_of_mem _ (ih hg)

theorem setAttr_ok (P : POk G k p) {A : Around} {H : Hp} {s : Shared} {μ : List Addr} {E : Value → Shared → Prop} {v u : Value} {d : D} {C : Addr} {i : Nat} {fs : List (Str × D)} {name : Str} (I : Inv G l μ H s) (r : Rep s.heap μ v (.inst C i)) (hH : H[i]? = some (.dict fs))
    (hl : fs.length ≤ 1000) (hs : p.sfd C name = true) (ru : Rep s.heap μ u d) :
    wpAny (model G.prog G.w) A (setAttr v name u) (fun _ s' => Inv G l μ (H.set i (.dict (setL name d fs))) s' ∧ Ext true [] s.heap μ s'.heap μ) E s := by
  obtain ⟨m1, m2, m3, m4⟩ := P.sfd C name hs
  obtain ⟨x, dx, od, es, ep, m, rfl, hx, hμ, ho, hd, hk, hf, IA, hmm⟩ := I.inst r hH
  have hn1 : ∃ m, s.heap.Ns1 dx m ∧ ∀ y, match getL y fs with | some d => ∃ v, m y = some v ∧ Rep s.heap μ v d | none => m y = none := I.objs i dx _ hμ hH
  obtain ⟨m', hn, hm⟩ := hn1
  refine set_plain (I.K P) IA m1 (osa_open (r := none) (s := { s with toks := s.toks + 1 }) (I.K P) IA m2 m3 fun b => ?_)
  obtain ⟨cd, hc, hd'⟩ := any_some m4
  refine wpAny_bind (wpAny_pure (wpAny_bind (wpAny_bind (wpAny_loadPart (o := instO C dx) hx (wpAny_bind (Looks.here (s := { s with toks := s.toks + 1 }) (looks_clsIn (I.K P) hc) ?_))))))
  rw [hd']
  refine wpAny_pure (a := some dx) ?_
  show wpAny _ _ (PySem.Builtin.ObjectAttr.storeInDict dx _ name u) _ _ _
  unfold PySem.Builtin.ObjectAttr.storeInDict PySem.Builtin.ObjectAttr.newKeyGuard
  refine wpAny_bind (wpAny_pure (wpAny_bind (wpAny_nsSet1 hn fun h' hn' hs' => ?_)))
  have hw : PySem.Within (fun x => if x = name then some u else m' x) (name :: fs.map (·.1)) := PySem.Within.cons name u (within_fs hm)
  obtain ⟨oD, esD, epD, hoD, hdD, hcD⟩ := hn'.count hw
  refine wpAny_bind (wpAny_lookBehind hoD (by rw [hdD]; exact pastItsLine_dict (Nat.le_trans hcD (by simp [sizeLine_eq]; omega))) ?_)
  refine wpAny_pure ?_
  have ob : (∀ v d, Rep s.heap μ v d → Rep h' μ v d) → ObjOk h' μ dx (.dict (setL name d fs)) := fun hr => ⟨_, hn', fun y => by
    rw [getL_setL]
    by_cases hy : y = name
    · subst hy
      rw [if_pos rfl]
      exact ⟨u, by simp, hr _ _ ru⟩
    · rw [if_neg hy]
      have := hm y
      split at this
      · rename_i d' hd'; (try rw [hd'])
        obtain ⟨w, e1, e2⟩ := this
        exact ⟨w, by simp [hy, e1], hr _ _ e2⟩
      · rename_i hd'; (try rw [hd'])
        simp [hy, this]⟩
  exact I.setObj (o' := .dict (setL name d fs)) (h' := h') (tk := s.toks + 1 + 1) hμ (fun b o hb e => hs'.extBut b o hb e) ⟨oD, hoD⟩ ob

theorem ss_AssignAttr (P : POk G k p) (o : Expr) (name : Str) (pa : Pos) (e : Expr) (pos : Pos) : SS G k p (.Assign [.Attribute o name pa] e pos) := by
  intro A env outer L loc H Q X s μ hA hf I F h
  refine wpAny_Assign_stores (SE.st (soundE P e) hA I F Ext.refl0 I F h fun v s₁ μ₁ H₁ d I₁ x₁ _ F₁ r₁ q₁ => ?_) (by cases e <;> rfl) (by cases e <;> rfl)
  show wpAny _ A (assign (.Attribute o name pa) env v) _ _ _
  rw [arm_assign_Attribute]
  refine wpAny_bind (wpAny_holding (SE.st (soundE P o) hA I F x₁ I₁ F₁ q₁ fun ov s₂ μ₂ H₂ a I₂ x₂ y₂ F₂ r₂ q₂ => ?_))
  cases a with
  | inst C i =>
    obtain ⟨hs, fs, hH, hl, q⟩ := q₂
    exact wpAny_bind (wpAny_standAt (wpAny_bind (wpAny_holding (wpAny_mono (setAttr_ok P I₂ r₂ hH hl hs (r₁.ext x₂ OwnOk.nil)) (fun _ s₃ h₃ => wpAny_release (SsP.mk' I F h₃.1 (y₂.trans h₃.2) (I₂.fok F₂ h₃.2) .next q)) fun _ _ y => y))))
  | _ => exact q₂.elim

theorem Reps.setAt {h : Heap} {μ : List Addr} {v : Value} {d : D} {vs : List Value} {ds : List D} (r : Reps h μ vs ds) (x : Rep h μ v d) : ∀ j, Reps h μ (vs.set j v) (ds.set j d) :=
  Reps.ind (P := fun vs ds => ∀ j, Reps h μ (vs.set j v) (ds.set j d)) (fun _ => .nil) (fun _ _ _ _ a r ih j => match j with | 0 => .cons x r | j + 1 => .cons a (ih j)) ds vs r

theorem setItem_ok {A : Around} {E : Value → Shared → Prop} {H : Hp} {s : Shared} {μ : List Addr} {a : Addr} {i : Nat} {ls : List D} {v : Value} {d : D} {j : Int} {t : Tok} (I : Inv G l μ H s) (hμ : μ[i]? = some a) (hH : H[i]? = some (.lst ls)) (r : Rep s.heap μ v d) (h0 : 0 ≤ j) (hj : j.toNat < ls.length) :
    wpAny (model G.prog G.w) A (setItem (.ref a) (.int j t) v) (fun _ s' => Inv G l μ (H.set i (.lst (ls.set j.toNat d))) s' ∧ Ext true [] s.heap μ s'.heap μ) E s := by
  obtain ⟨vs₁, n₁, e₁, z₁, rs⟩ := I.objs i a _ hμ hH
  have hl : s.heap.IsList a vs₁.toArray := ⟨_, e₁, rfl, n₁, rfl⟩
  have hfit : j < 2 ^ 63 := by
    rw [rs.length, sizeLine_eq] at z₁
    omega
  unfold setItem
  refine wpAny_holding ?_
  refine wpAny_bind (wpAny_sequenceKey hl.typeIs (by decide) ?_)
  refine wpAny_bind (wpAny_callSpecial?_slot (name := Str.ofString "__setitem__") hl.typeIs slot_list_setitem
    (wpAny_call_entry slot_list_setitem hl.typeIs entry_list_setitem ?_ (args_list_setitem _ _ _)))
  show wpAny _ _ (Builtin.List.listSubscript? (.int j t) >>= _) _ _ s
  refine wpAny_bind (wpAny_listSubscript_int (fitsIndex_of h0 hfit) ?_)
  clear hfit
  obtain ⟨j, rfl⟩ := Int.eq_ofNat_of_zero_le h0
  have hj' : j < vs₁.toArray.size := by simpa [rs.length] using hj
  have hx' : vs₁.toArray[j]? = some vs₁.toArray[j] := Array.getElem?_eq_getElem hj'
  show wpAny _ _ ((seqItemAt a j >>= fun r => pure (r.map (j, ·))) >>= _) _ _ s
  refine wpAny_bind (wpAny_bind (wpAny_seqItemAt e₁ rfl (wpAny_pure ?_)))
  rw [hx']
  show wpAny _ _ (setSeqItemAt a j v >>= _) _ _ s
  have eu : (s.heap.update a (Obj.mapSeq (·.setIfInBounds j v))).get? a = some { cls := .type "list", data := .seq (vs₁.set j v).toArray n₁ } := by
    rw [Heap.get?_update_self _ e₁ rfl]
    simp [Obj.mapSeq]
  obtain ⟨I₃, x₃⟩ := I.setObj (o' := .lst (ls.set j d)) (h' := s.heap.update a (Obj.mapSeq (·.setIfInBounds j v))) (tk := s.toks) hμ (fun b o hb e => (Heap.get?_update_ne _ _ _ _ hb).trans e) ⟨_, eu⟩
    (fun hr => ⟨_, _, eu, by simpa using z₁, (rs.mono hr).setAt (hr _ _ r) j⟩)
  refine wpAny_bind (wpAny_setSeqItemAt e₁ rfl ?_)
  first
    | exact wpAny_bind (wpAny_pure (wpAny_pure ⟨.none, rfl, wpAny_pure ⟨I₃, x₃⟩⟩))
    | exact wpAny_pure ⟨.none, rfl, wpAny_pure ⟨I₃, x₃⟩⟩

theorem of_sub {a b : D} {P : Nat → Int → Prop} (h : match a, b with | .mref j, .int k => P j k | _, _ => False) : ∃ j k, a = .mref j ∧ b = .int k ∧ P j k := by
  cases a <;> first | exact h.elim | skip
  cases b <;> first | exact h.elim | exact ⟨_, _, rfl, rfl, h⟩
theorem ss_AssignSub (P : POk G k p) (o i : Expr) (pa : Pos) (e : Expr) (pos : Pos) : SS G k p (.Assign [.Subscript o i pa] e pos) := by
  intro A env outer L loc H Q X s μ hA hf I F h
  refine wpAny_Assign_stores (SE.st (soundE P e) hA I F Ext.refl0 I F h.2 fun v s₁ μ₁ H₁ d I₁ x₁ _ F₁ r₁ q₁ => ?_) (by cases e <;> rfl) (by cases e <;> rfl)
  show wpAny _ A (assign (.Subscript o i pa) env v) _ _ _
  rw [arm_assign_Subscript]
  refine wpAny_bind (wpAny_holding (SE.st (soundE P o) hA I F x₁ I₁ F₁ q₁ fun ov s₂ μ₂ H₂ a I₂ x₂ y₂ F₂ r₂ q₂ => wpAny_bind (wpAny_holding (SE.st (soundE P i) hA I F y₂ I₂ F₂ q₂ fun iv s₃ μ₃ H₃ b I₃ x₃ y₃ F₃ r₃ q₃ => ?_))))
  obtain ⟨j, kk, rfl, rfl, ls, hH, h0, hj, q⟩ := of_sub q₃
  obtain ⟨t, rfl⟩ := r₃.inv
  obtain ⟨a, rfl, hμ⟩ := (r₂.ext x₃ OwnOk.nil).inv
  exact wpAny_bind (wpAny_standAt (wpAny_bind (wpAny_holding (wpAny_mono (setItem_ok I₃ hμ hH (r₁.ext (x₂.trans x₃) OwnOk.nil) h0 hj) (fun _ s₄ h₄ => wpAny_release (SsP.mk' I F h₄.1 (y₃.trans h₄.2) (I₃.fok F₃ h₄.2) .next q)) fun _ _ y => y))))

theorem assignEach_name (x : Str) (px : Pos) (r : List Expr) (env : Env) : assignEach (.Name x px :: r) env = (false, assign (.Name x px) env) :: assignEach r env := rfl

theorem names_cons {e : Expr} {r : List Expr} {xs : List Str} (h : names? (e :: r) = some xs) : ∃ x px l, e = .Name x px ∧ names? r = some l ∧ xs = x :: l := by
  cases e <;> first | (cases h; done) | skip
  rename_i x px
  have h : (match names? r with | some l => some (x :: l) | none => none) = some xs := h
  cases hr : names? r with
  | none => rw [hr] at h; cases h
  | some l => rw [hr] at h; cases h; exact ⟨x, px, l, rfl, rfl, rfl⟩

theorem each_names {env : Env} : ∀ {es : List Expr} {xs : List Str}, names? es = some xs → (assignEach es env).length = xs.length ∧ (assignEach es env).findIdx? (·.1) = none := by
  intro es
  induction es with
  | nil => intro xs h; cases h; exact ⟨rfl, rfl⟩
  | cons e r ih =>
    intro xs h
    obtain ⟨x, px, l, rfl, hr, rfl⟩ := names_cons h
    obtain ⟨h1, h2⟩ := ih hr
    rw [assignEach_name]
    refine ⟨by simp [h1], ?_⟩
    rw [List.findIdx?_cons]
    simp [h2]

theorem assign_names {env : Env} {A : Around} {E : Value → Shared → Prop} {H : Hp} {μ : List Addr} : ∀ {es : List Expr} {xs : List Str} {vs : List Value} {ds : List D} {loc loc' : Loc} {s : Shared}, names? es = some xs → xs.all (storeOk env.scope.names) = true → Reps s.heap μ vs ds → setAll xs ds loc = some loc' →
    Inv G l μ H s → Fok G env loc μ s.heap → wpAny (model G.prog G.w) A (assignInOrder ((assignEach es env).map (·.2)) vs) (fun _ s' => Inv G l μ H s' ∧ Ext true (own env) s.heap μ s'.heap μ ∧ Fok G env loc' μ s'.heap) E s := by
  intro es
  induction es with
  | nil =>
    intro xs vs ds loc loc' s hn ha r hs I F
    cases hn
    cases r with
    | nil => cases hs; exact wpAny_assignInOrder_none ⟨I, Ext.refl (F.own I).2, F⟩
    | cons _ _ => cases hs
  | cons e es ih =>
    intro xs vs ds loc loc' s hn ha r hs I F
    obtain ⟨x, px, ys, rfl, hr, rfl⟩ := names_cons hn
    · cases r with
      | nil => cases hs
      | cons r1 r2 =>
        rename_i v d vs ds
        rw [List.all_cons, Bool.and_eq_true] at ha
        rw [assignEach_name]
        refine wpAny_assignInOrder_more (wpAny_assign_Name (wpAny_mono (store_ok I F r1 (storeOk_of ha.1)) (fun _ s₁ h₁ => ?_) fun _ _ y => y))
        obtain ⟨I₁, x₁, F₁⟩ := h₁
        refine wpAny_mono (ih hr ha.2 (r2.ext x₁ (F.own I).1) hs I₁ F₁) (fun _ s₂ h₂ => ?_) fun _ _ y => y
        exact ⟨h₂.1, x₁.trans h₂.2.1, h₂.2.2⟩

theorem target_ok {env : Env} {A : Around} {E : Value → Shared → Prop} {H : Hp} {μ : List Addr} {t : Expr} {v : Value} {d : D} {loc loc' : Loc} {s : Shared} (hh : A.handled = none) (ht : tgtOk env.scope.names t = true) (r : Rep s.heap μ v d) (hs : tgtD t d loc = some loc')
    (I : Inv G l μ H s) (F : Fok G env loc μ s.heap) : wpAny (model G.prog G.w) A (assign t env v) (fun _ s' => Inv G l μ H s' ∧ Ext true (own env) s.heap μ s'.heap μ ∧ Fok G env loc' μ s'.heap) E s := by
  cases t <;> first | (cases ht; done) | skip
  · rename_i x px
    cases hs
    exact wpAny_assign_Name (store_ok I F r (storeOk_of ht))
  · rename_i es cx pos
    unfold tgtOk at ht
    unfold tgtD at hs
    dsimp only at ht hs
    cases hn : names? es with
    | none => rw [hn] at ht; cases ht
    | some xs =>
      rw [hn] at ht hs
      cases d <;> first | (cases hs; done) | skip
      rename_i ds
      cases r with
      | tup e hμ hz rs =>
        rename_i a vs n
        obtain ⟨n1, n2⟩ := each_names (env := env) hn
        have hlen : xs.length = vs.length := by
          rw [rs.length]
          have gen : ∀ (xs : List Str) (ds : List D) (loc loc' : Loc), setAll xs ds loc = some loc' → xs.length = ds.length := by
            intro xs
            induction xs with
            | nil => intro ds loc loc' h; cases ds with | nil => rfl | cons _ _ => cases h
            | cons x xs ih => intro ds loc loc' h; cases ds with | nil => cases h | cons d ds => simp [ih ds _ _ h]
          exact gen _ _ _ _ hs
        refine wpAny_assign_Tuple (items := vs.toArray) hh ⟨_, e, rfl, n, rfl⟩ (by rw [n1, hlen]; simp) n2 fun h' k => ?_
        have kk : ∀ b o, s.heap.get? b = some o → h'.get? b = some o := fun b o e => k b o (Nat.ne_of_lt (Heap.lt_size e)) e
        refine wpAny_mono (assign_names (s := { s with heap := h' }) hn ht (rs.keeps kk) hs (I.keeps (tk := s.toks) kk) (F.keeps kk)) (fun _ s₂ h₂ => ?_) fun _ _ y => y
        exact ⟨h₂.1, (Ext.of_keeps kk (F.own I).2).trans h₂.2.1, h₂.2.2⟩

theorem go_ok {A : Around} {E : Value → Shared → Prop} {s : Shared} {μ : List Addr} {H : Hp} {it : Addr} {i : Nat} {items : List D} {d : D} {t : Expr} {v : Value} {Q : Unit → Shared → Prop} (x : Src s.heap μ H it i items d) (hQ : Q () s) :
    wpAny (model G.prog G.w) A (letOwnedTupleGo t (.ref it) v) Q E s := by
  have gen : ∀ (o : Obj) (n : String) (vs : Array Value), s.heap.get? it = some o → o.cls = .type n → o.data = .fields vs → (["enumerate", "zip", "dict_itemiterator", "dict_reverseitemiterator", "odict_iterator", "itertools.zip_longest", "itertools.pairwise"].contains n) = false →
      wpAny (model G.prog G.w) A (letOwnedTupleGo t (.ref it) v) Q E s := by
    intro o n vs ho hc hd hn
    have main : ∀ a, wpAny (model G.prog G.w) A (do
        let o ← load it
        match o.cls, o.data with
        | .type n, .fields vs =>
          if ["enumerate", "zip", "dict_itemiterator", "dict_reverseitemiterator", "odict_iterator", "itertools.zip_longest", "itertools.pairwise"].contains n && vs[0]? == some (rawInt a) then
            rule "for.unpacks-the-owned-tuple"
            updateField it 0 .none
        | _, _ => pure () : Sem Unit) Q E s := fun a => by
      refine wpAny_bind (wpAny_load ho ?_)
      rw [hc, hd]
      dsimp only
      rw [if_neg (by rw [hn, Bool.false_and]; decide)]
      exact wpAny_pure hQ
    cases t <;> first | exact wpAny_pure hQ | skip
    all_goals (cases v <;> first | exact wpAny_pure hQ | skip)
    · exact main _
    · exact main _
  cases x with
  | lst _ _ _ y => obtain ⟨o, h1, h2, h3⟩ := y; exact gen o _ _ h1 h2 h3 (by decide)
  | mlst _ _ y => obtain ⟨o, h1, h2, h3⟩ := y; exact gen o _ _ h1 h2 h3 (by decide)
  | tup _ _ _ y => obtain ⟨o, h1, h2, h3⟩ := y; exact gen o _ _ h1 h2 h3 (by decide)
  | rng _ y => exact gen _ _ _ y rfl rfl (by decide)
  | str _ y => obtain ⟨o, h1, h2, h3⟩ := y; exact gen o _ _ h1 h2 h3 (by decide)

theorem chkD_two {H₁ H₂ H₃ : Hp} {d : D} (a : chkD H₁ d H₂) (b : chkD H₁ d H₃) : chkD H₂ d H₃ := by
  cases d <;> first | exact trivial | exact b.trans a.symm

/-- a loop, n turns ahead of its end -/
inductive ForI (G : Gl) (l : List Env) (env : Env) (W : List D → Loc → Hp → Prop) (h₁ : Heap) (μ₁ : List Addr) (H₁ : Hp) (ai : Addr) (items : List D) (a : D) (n : Nat) (s : Shared) : Prop
  | mk (i : Nat) (μ : List Addr) (H : Hp) (loc : Loc) : n = items.length - i → i ≤ items.length → Inv G l μ H s → Ext true (own env) h₁ μ₁ s.heap μ → Fok G env loc μ s.heap → Src s.heap μ H ai i items a → chkD H₁ a H → W (items.drop i) loc H → ForI G l env W h₁ μ₁ H₁ ai items a n s

theorem Ext.addIt {env : Env} {μ μ₃ : List Addr} {h h₃ h₄ : Heap} {ai : Addr} (z : Ext true (own env) h μ h₃ μ₃) (z' : Ext true [ai] h₃ μ₃ h₄ μ₃) (ap : ∀ a ∈ own env, a ∉ μ₃) (h0 : h.get? ai = none) : Ext true (own env) h μ h₄ μ₃ := by
  have q : ∀ a ∈ ai :: own env, a ∉ μ₃ := fun a ha => by
    rcases List.mem_cons.mp ha with rfl | ha
    · exact z'.apart a (.head _)
    · exact ap a ha
  exact ((z.owned (fun a ha => .tail _ ha) q).trans (z'.owned (fun a ha => by rw [List.mem_singleton.mp ha]; exact .head _) q)).dropFresh h0

theorem ss_For (P : POk G k p) {t it : Expr} {body : List Stmt} {pos : Pos} (hb : SSs G k p body) : SS G k p (.For t it body [] pos) := by
  intro A env outer L loc H Q X s μ hA hf I F h
  obtain ⟨hc, h⟩ := h
  obtain ⟨hp, ht⟩ := Bool.and_eq_true_iff.mp hc
  refine wpAny_For (SE.st (soundE P it) hA I F Ext.refl0 I F h fun v s₁ μ₁ H₁ a I₁ x₁ _ F₁ r₁ q₁ => ?_) (folded_plain hp)
  obtain ⟨items, ei, w⟩ := q₁
  have y₁ := x₁.toOwn F I I₁
  refine wpAny_mono (Src.start I₁ r₁ ei) (fun itv s₂ h₂ => ?_) (fun _ _ y => y)
  obtain ⟨ai, oi, rfl, hai, rfl, sr⟩ := h₂
  have hai0 : s₁.heap.get? ai = none := by rw [hai]; exact push_fresh
  have k2 : ∀ b o, s₁.heap.get? b = some o → (s₁.heap.push oi).get? b = some o := fun _ _ e => Heap.get?_push_of_some _ e
  have hib : G.base.get? ai = none := none_back I₁.stays hai0
  have hio := own_fresh F₁ hai0
  refine codeAny_forLoop_any (ForI G (env :: outer) env (fun ds loc H => forW (tgtD t) (fun loc₁ H₂ K => awSs p env.scope.names body loc₁ H₂ K X) (chkD H₁ a) ds loc H Q) s₁.heap μ₁ H₁ ai items a) ?_ items.length
    ⟨0, μ₁, H₁, loc, rfl, Nat.zero_le _, I₁.keeps (tk := s₁.toks) k2, Ext.of_keeps k2 (F₁.own I₁).2, F₁.keeps k2, sr, chkD_refl _ _, w⟩
  rintro n s₃ ⟨i, μ₃, H₃, loc₃, rfl, hi, I₃, x₃, F₃, sr₃, ck₃, w₃⟩
  have ap3 := (F₃.own I₃).2
  have hm3 := sr₃.notMut I₃
  cases hit : items[i]? with
  | none =>
    refine wpAny_mono (Src.done hA.handled I₃ sr₃ hib hit hi) (fun r s₄ h₄ => ?_) fun _ _ y => y
    obtain ⟨rfl, h₄, rfl, I₄, x₄⟩ := h₄
    rw [List.drop_eq_nil_of_le (List.getElem?_eq_none_iff.mp hit)] at w₃
    exact wpAny_execs_nil ⟨μ₃, H₃, loc₃, .next, I₄, y₁.trans (x₃.addIt x₄ ap3 hai0), F₃.past x₄ sr₃.own hio I₃.cell, .next, w₃⟩
  | some d =>
    obtain ⟨hil, hd⟩ := List.getElem?_eq_some_iff.mp hit
    refine wpAny_mono (Src.next I₃ sr₃ hib hit) (fun r s₄ h₄ => ?_) fun _ _ y => y
    obtain ⟨v', h₄, tk, rfl, rfl, I₄, x₄, sr₄, r₄⟩ := h₄
    have F₄ := F₃.past x₄ sr₃.own hio I₃.cell
    rw [List.drop_eq_getElem_cons hil, hd] at w₃
    obtain ⟨loc₅, ht₅, w₅⟩ := w₃
    refine go_ok sr₄ (wpAny_mono (target_ok hA.handled ht r₄ ht₅ I₄ F₄) (fun _ s₅ h₅ => ?_) fun _ _ y => y)
    obtain ⟨I₅, x₅, F₅⟩ := h₅
    have x₁₅ := (x₃.addIt x₄ ap3 hai0).trans x₅
    refine wpAny_mono (hb hA hf I₅ F₅ w₅) (fun f s₆ h₆ => ?_) (fun e s₆ h₆ => SxP.noted hA.frames hf (h₆.back (y₁.trans x₁₅)) fun s₇ q => q.cameBack hf)
    obtain ⟨μ₆, H₆, loc₆, fl, I₆, x₆, F₆, hfl, q₆⟩ := h₆
    have sr₆ := (sr₄.ext x₅ hio hm3 (F₄.own I₄).1 (chkD_refl _ _)).ext (H' := H₆) x₆ hio hm3 (F₅.own I₅).1
    have lt : items.length - (i + 1) < items.length - i := Nat.sub_lt_sub_left hil (Nat.lt_succ_self i)
    cases hfl with
    | next => exact ⟨_, lt, i + 1, μ₆, H₆, loc₆, rfl, hil, I₆, x₁₅.trans x₆, F₆, sr₆ (chkD_two ck₃ q₆.1), q₆.1, q₆.2⟩
    | cont => exact ⟨_, lt, i + 1, μ₆, H₆, loc₆, rfl, hil, I₆, x₁₅.trans x₆, F₆, sr₆ (chkD_two ck₃ q₆.1), q₆.1, q₆.2⟩
    | brk => exact ⟨μ₆, H₆, loc₆, .next, I₆, y₁.trans (x₁₅.trans x₆), F₆, .next, q₆⟩
    | ret r => exact ⟨μ₆, H₆, loc₆, _, I₆, y₁.trans (x₁₅.trans x₆), F₆, .ret r, q₆⟩
end

end YV
end

section
set_option autoImplicit false
set_option linter.unusedVariables false
set_option maxRecDepth 10000
namespace YV
open PySem PySem.Calls PyProof.Rows PySem.W

theorem soundEs {G : Gl} {l : List Env} {k : Nat} {p : Pg} (P : POk G k p) (es : List Expr) : SEs G l k p es := ((sound_all P (sizeOf es + 1)).2.1 es (Nat.lt_succ_self _)).1

section
variable {G : Gl} {l : List Env} {k : Nat} {p : Pg}

theorem const_ok {A : Around} {env : Env} {E : Value → Shared → Prop} {s : Shared} {μ : List Addr} {c : Const} {n : Nat} {pos : Pos} {d : D} (h : constD c = some d) :
    wpAny (model G.prog G.w) A (eval (.Constant c n pos) env) (fun v s' => Rep s.heap μ v d ∧ ∃ tk, s' = { s with toks := tk }) E s := by
  cases c <;> first | (cases h; done) | skip
  · cases h; exact wpAny_Constant_none ⟨.none, s.toks, rfl⟩
  · cases h; exact wpAny_Constant_bool ⟨.bool _, s.toks, rfl⟩
  · cases h; exact wpAny_Constant_int ⟨.int _ _, _, rfl⟩
  · cases h; exact wpAny_Constant_str ⟨.str _ _, _, rfl⟩

theorem wpAny_spliced_const {A : Around} {env : Env} {E : Value → Shared → Prop} {s : Shared} {μ : List Addr} {m : Str} {n : Nat} {cp pc : Pos} :
    wpAny (model G.prog G.w) A (spliced (backTo pc (starEach [.Constant (.str m) n cp] env))) (fun vs s' => Reps s.heap μ vs [.str m] ∧ ∃ tk, s' = { s with toks := tk } ∧ vs.length = 1) E s := by
  rw [star_plain rfl]
  refine spliced_cons (wpAny_mono (const_ok (μ := μ) (n := n) (pos := cp) rfl) (fun v s₁ h₁ => ?_) fun _ _ y => y)
  obtain ⟨r, tk, rfl⟩ := h₁
  exact spliced_nil ⟨.cons r .nil, tk, rfl, rfl⟩

theorem ExcAt.ext {raw : Bool} {μ μ' : List Addr} {H : Hp} {s : Shared} {h' : Heap} {ea : Addr} {c fl : Value} {T : Option Addr} (I : Inv G l μ H s) (x : Ext true [] s.heap μ h' μ') (e : ExcAt raw s.heap ea c T fl) : ExcAt raw h' ea c T fl := by
  have solid : ∀ a o vs, s.heap.get? a = some o → o.data = .fields vs → h'.get? a = some o := fun a o vs ho hd => by
    have hm : a ∉ μ := fun q => by
      obtain ⟨o', g1, g2, _⟩ := I.kind q
      rw [ho] at g1; cases g1; exact g2 vs hd
    obtain ⟨sl, e1, e2⟩ := x.keep a o ho hm (by simp) (.inl rfl)
    rw [e2 (fun es n q => by rw [hd] at q; cases q)] at e1
    exact e1
  obtain ⟨oe, vs, h1, h2, h3, h4, h5, h6, h7⟩ := e
  refine ⟨oe, vs, solid _ _ _ h1 h4, h2, h3, h4, h5, h6, ?_⟩
  cases T with
  | none => exact h7
  | some t =>
    obtain ⟨g1, g2, oT, ts, g3, g4, g5, g6, g7⟩ := h7
    exact ⟨g1, g2, oT, ts, solid _ _ _ g3 g5, g4, g5, g6, g7⟩

/-- a new exception -/
theorem made_sx {env : Env} {L : Addr} {loc : Loc} {μ μi μ₂ : List Addr} {h hi : Heap} {H₂ : Hp} {s₂ : Shared} {h' : Heap} {e t : Addr} {c : Value} {X : Value → Loc → Hp → Prop} {cx : Value} (x1 : Ext true (own env) h μ hi μi) (F : Fok G env loc μi hi) (x3 : ∀ c v, hi.IsCell c v → c ∉ μi)
    (x4 : Ext true [] hi μi s₂.heap μ₂) (I : Inv G l μ₂ H₂ s₂) (kp : ∀ b o, s₂.heap.get? b = some o → h'.get? b = some o) (new : s₂.heap.get? e = none) (hc : c ≠ .type "range") (hcx : G.raw c = true → cx = .none)
    (he : h'.get? e = some { cls := c, data := .fields #[.ref t, .none, cx, .none, .bool false, .none] }) (q : X c loc H₂) : SxP G l env μ h (okG L) X (.ref e) { s₂ with heap := h' } := by
  refine ⟨hi, μi, loc, H₂, μ₂, c, none, .none, e, x1, F, x3, x4.trans (Ext.of_keeps0 kp), I.keeps (tk := s₂.toks) kp, rfl, ⟨_, _, he, rfl, hc, rfl, by simp, fun hr => by simp [hcx hr], rfl⟩, (fun z => by cases z), none_of_ext x4 new (by simp), (fun t ht => by cases ht), fun a ha => ?_, q⟩
  simp [xown] at ha
  subst ha
  exact none_back I.stays new

theorem excD_of {sc : Str → Option NK} {x : Str} {c : Value} (h : excD p sc x = some c) : ∃ C, c = .ref C ∧ p.exc (.ref C) = true ∧ ∀ loc, nmD p sc loc x = some (.glob C) := by
  unfold excD at h
  split at h
  · rename_i C h1 h2
    by_cases he : p.exc (.ref C) = true
    · rw [if_pos he] at h
      cases h
      exact ⟨C, rfl, he, fun loc => by unfold nmD; rw [h1]; exact h2⟩
    · rw [if_neg he] at h; cases h
  · cases h

theorem entry_unchain : entryFor table "proto.unchain" = some Builtin.«proto.unchain» := entryFor_of_fast (by kernel_rfl)

/-- a new exception thrown while another is handled -/
theorem raiseNew_in {α : Type} {A : Around} {E : Value → Shared → Prop} {Q : α → Shared → Prop} {s : Shared} {e ea : Addr} {oe oa : Obj} {vs ws : Array Value} (hh : A.handled = some (.ref ea)) (hne : ea ≠ e) (ha : s.heap.get? ea = some oa) (hda : oa.data = .fields ws) (h2 : ws[2]? = some .none)
    (he : s.heap.get? e = some oe) (hde : oe.data = .fields vs) (hz : 2 < vs.size) (h : E (.ref e) { s with heap := s.heap.update e (Obj.mapFields (·.setIfInBounds 2 (.ref ea))) }) : wpAny (model G.prog G.w) A (raiseNew (.ref e) : Sem α) Q E s := by
  unfold raiseNew
  refine wpAny_bind (wpAny_handled ?_)
  rw [hh]
  dsimp only
  rw [if_pos (show (Value.ref ea != Value.ref e) = true from by simp [hne])]
  refine wpAny_bind (wpAny_holding (wpAny_runValue (codeAny_builtin entry_unchain ?_)))
  unfold Builtin.«proto.unchain»
  refine wpAny_bind (wpAny_field ha hda h2 ?_)
  rw [if_pos (by rfl)]
  refine wpAny_bind (wpAny_pure (wpAny_pure ?_))
  show wpAny _ _ (setField (.ref e) 2 (.ref ea) >>= _) _ _ _
  exact wpAny_bind (wpAny_setField he hde hz (wpAny_throw h))

/-- raising a new exception -/
theorem raise_gen (P : POk G k p) {A : Around} {E : Value → Shared → Prop} {env : Env} {l : List Env} {loc : Loc} {μ : List Addr} {H : Hp} {s : Shared} {Q : Flow → Shared → Prop} {x : Str} {px cp pc pos : Pos} {m : Str} {n : Nat} {C : Addr}
    (hexc : p.exc (.ref C) = true) (hd : nmD p (kcOf env.scope.names) loc x = some (.glob C)) (F : Fok G env loc μ s.heap) (I : Inv G l μ H s)
    (hr : ∀ h' e t tk, (∀ b o, s.heap.get? b = some o → h'.get? b = some o) → s.heap.get? e = none → h'.get? e = some { cls := .ref C, data := .fields #[.ref t, .none, .none, .none, .bool false, .none] } → wpAny (model G.prog G.w) A (raiseNew (.ref e)) Q E { s with heap := h', toks := tk }) :
    wpAny (model G.prog G.w) A (exec (.Raise (some (.Call (.Name x px) [.Constant (.str m) n cp] [] pc)) none pos) env) Q E s := by
  obtain ⟨nm, qq, N, bs, hdct, sn, sub, ab, col, dd, k0, k1, k2, k3, k5, mN, g1, g2, g3⟩ := P.exc _ hexc
  have hpl : (backTo pc (starEach [.Constant (.str m) n cp] env)).any (·.1) = false := rfl
  have hcB : (Value.ref C :: [Value.type "Exception", .type "BaseException", .type "object"]).contains (.type "BaseException") = true := by simp
  rw [arm_exec_Raise]
  show wpAny _ A (do standAt pos; raiseStmt env (some (do let v ← eval (.Call (.Name x px) [.Constant (.str m) n cp] [] pc) env; standAt pos; pure v)) none) _ _ _
  refine wpAny_bind (wpAny_standAt ?_)
  unfold raiseStmt
  refine wpAny_bind (wpAny_bind (wpAny_Call_ofName (wpAny_mono (name_ok P I F hd) (fun f s₁ h₁ => ?_) fun _ _ y => y)))
  obtain ⟨rfl, r⟩ := h₁
  obtain rfl := r.inv
  unfold callWith
  refine wpAny_bind (wpAny_holding (evalArgs_all (M := model G.prog G.w) (es := [.Constant (.str m) n cp]) rfl (wpAny_mono (wpAny_spliced_const (G := G) (μ := μ)) (fun vs s₂ h₂ => wpAny_bind (wpAny_standAt ?_)) fun _ _ y => y)))
  obtain ⟨rv, tk, rfl, ln⟩ := h₂
  have hC₂ := I.stays _ _ g1
  have hN₂ := g2.keeps I.stays
  simp only [hpl]
  obtain ⟨hp, gg, dr, tk0, os⟩ := s₁
  refine wpAny_bind (wpAny_keeperOf_exc hC₂ ?_)
  refine wpAny_bind (wpAny_call_exc_sub (hrest := by simp [ln, sizeLine_eq]) PySem.F.excBase_Exception hC₂ hN₂ g3 fun h' e hm => wpAny_bind (wpAny_holding (wpAny_point (wpAny_pure ?_))))
  obtain ⟨t, ht, _, _⟩ := hm.there
  have hC₃ := hm.keeps _ _ hC₂
  refine wpAny_bind (wpAny_standAt (wpAny_pure ?_))
  repeat (first | with_reducible refine wpAny_loadPart_at ht ?_ | with_reducible refine wpAny_loadPart_at hC₃ ?_ | (with_reducible refine wpAny_isSubtype_exc hC₃ ?_; rw [hcB]) | wp_step)
  exact hr h' e t tk hm.keeps hm.new ht

/-- raising in a handler's suite -/
theorem raise_in (P : POk G k p) {A : Around} {env : Env} {outer : List Env} {L : Addr} {loc : Loc} {μ μi μ' : List Addr} {h hi : Heap} {H : Hp} {s : Shared} {X : Value → Loc → Hp → Prop} {Q : Flow → Shared → Prop} {x : Str} {px cp pc pos : Pos} {m : Str} {n : Nat} {C ea : Addr} {oa : Obj} {ws : Array Value}
    (hh : A.handled = some (.ref ea)) (ha : s.heap.get? ea = some oa) (hda : oa.data = .fields ws) (h2 : ws[2]? = some .none) (hraw : p.raw (.ref C) = false)
    (hc : excD p (kcOf env.scope.names) x = some (.ref C)) (x1 : Ext true (own env) h μ hi μi) (F : Fok G env loc μi hi) (x3 : ∀ c v, hi.IsCell c v → c ∉ μi) (x4 : Ext true [] hi μi s.heap μ') (I : Inv G (env :: outer) μ' H s) (q : X (.ref C) loc H) :
    wpAny (model G.prog G.w) A (exec (.Raise (some (.Call (.Name x px) [.Constant (.str m) n cp] [] pc)) none pos) env) Q (SxP G (env :: outer) env μ h (okG L) X) s := by
  obtain ⟨C', e, hexc, hd⟩ := excD_of hc
  cases e
  refine raise_gen P hexc (hd loc) (F.ext x4 x3) I fun h' e t tk hk hn ht => ?_
  have hne : ea ≠ e := fun z => by subst z; rw [hn] at ha; cases ha
  refine raiseNew_in hh hne (hk _ _ ha) hda h2 ht rfl (by simp) ?_
  refine made_sx (s₂ := { s with toks := tk }) (t := t) (cx := .ref ea) x1 F x3 x4 (I.toks tk) (fun b o z => (Heap.get?_update_other _ _ (fun w => by subst w; rw [hn] at z; cases z)).trans (hk b o z)) hn (by simp) (fun hr => ?_) ?_ q
  · rw [← P.raw, hraw] at hr; cases hr
  · rw [Heap.get?_update_self _ ht rfl]; rfl

theorem ss_Raise (P : POk G k p) (x : Str) (px : Pos) (m : Str) (n : Nat) (cp pc pos : Pos) : SS G k p (.Raise (some (.Call (.Name x px) [.Constant (.str m) n cp] [] pc)) none pos) := by
  intro A env outer L loc H Q X s μ hA hf I F h
  obtain ⟨x', px', m', n', cp', pc', c, e1, _, hc, q⟩ := h
  cases e1
  obtain ⟨C, rfl, hexc, hd⟩ := excD_of hc
  exact raise_gen P hexc (hd loc) F I fun h' e t tk hk hn ht => wpAny_raiseNew_none hA.handled (made_sx (s₂ := { s with toks := tk }) (Ext.refl (F.own I).2) F I.cell Ext.refl0 (I.toks tk) hk hn (by simp) (fun _ => rfl) ht q)

/-- an exception in flight, opened -/
theorem SxP.open {env : Env} {μ : List Addr} {h : Heap} {ok : Option Addr → Value → Prop} {X : Value → Loc → Hp → Prop} {e : Value} {s : Shared} (x : SxP G l env μ h ok X e s) :
    ∃ c loc H μ' ea oe, e = .ref ea ∧ Inv G l μ' H s ∧ Fok G env loc μ' s.heap ∧ s.heap.get? ea = some oe ∧ oe.cls = c ∧ X c loc H ∧ ∀ X' : Value → Loc → Hp → Prop, X' c loc H → SxP G l env μ h ok X' e s := by
  obtain ⟨hi, μi, loc, H', μ', c, T, fl, ea, x1, x2, x3, x4, I, x6, x7, x8, x9, x10, x11, x12⟩ := x
  have x7' := x7
  obtain ⟨oe, vs, h1, h2, _⟩ := x7'
  exact ⟨c, loc, H', μ', ea, oe, x6, I, x2.ext x4 x3, h1, h2, x12, fun X' q => ⟨hi, μi, loc, H', μ', c, T, fl, ea, x1, x2, x3, x4, I, x6, x7, x8, x9, x10, x11, q⟩⟩

/-- the suite of a handler -/
theorem suite_ok (P : POk G k p) {A : Around} {env : Env} {outer : List Env} {L : Addr} {μ : List Addr} {h : Heap} {s : Shared} {e : Value} {Q : Fl → Loc → Hp → Prop} {X : Value → Loc → Hp → Prop} {suite : List Stmt} (hh : A.handled = some e) (hA : A.frames = some (env :: outer)) (hf : env.frame = some L)
    (x : SxP G (env :: outer) env μ h (okF .none) (fun c loc H => awU p env.scope.names c suite loc H Q X) e s) :
    wpAny (model G.prog G.w) A (execs suite env) (SsP G (env :: outer) env μ h Q) (SxP G (env :: outer) env μ h (okG L) X) s := by
  obtain ⟨hi, μi, loc, H', μ', c, T, fl, ea, x1, x2, x3, x4, I, rfl, x7, x8, x9, x10, x11, x12⟩ := x
  have F : Fok G env loc μ' s.heap := x2.ext x4 x3
  have y4 : Ext true (own env) hi μi s.heap μ' := x4.owned (fun _ h => nomatch h) (F.own I).2
  obtain ⟨f, rfl, x12⟩ := x12
  rcases f with ⟨x, px, kc, n, cp, pos⟩ | ⟨o, po, name, pa, kc, n, cp, pos, rp⟩ | ⟨x, px, m, n, cp, pc, pos⟩
  · obtain ⟨hst, d, hd, q⟩ := x12
    refine wpAny_execs_cons (wpAny_Assign_Name (wpAny_mono (const_ok (G := G) (μ := μ') hd) (fun v s₁ h₁ => ?_) fun _ _ y => y))
    obtain ⟨r, tk, rfl⟩ := h₁
    refine wpAny_mono (store_ok (I.toks tk) F r (storeOk_of hst)) (fun _ s₂ h₂ => ?_) fun _ _ y => y
    obtain ⟨I₂, z₂, F₂⟩ := h₂
    exact wpAny_execs_nil ⟨μ', _, _, .next, I₂, (x1.trans y4).trans z₂, F₂, .next, q⟩
  · obtain ⟨d, C, i, fs, hd, ho, hH, hl, hs, q⟩ := x12
    refine wpAny_execs_cons (wpAny_Assign_stores (wpAny_mono (const_ok (G := G) (μ := μ') hd) (fun v s₁ h₁ => ?_) fun _ _ y => y) rfl rfl)
    obtain ⟨r, tk, rfl⟩ := h₁
    show wpAny _ A (assign (.Attribute (.Name o po) name pa) env v) _ _ _
    rw [arm_assign_Attribute]
    refine wpAny_bind (wpAny_holding (wpAny_mono (name_ok P (I.toks tk) F ho) (fun ov s₂ h₂ => ?_) fun _ _ y => y))
    obtain ⟨rfl, r₂⟩ := h₂
    refine wpAny_bind (wpAny_standAt (wpAny_bind (wpAny_holding (wpAny_mono (setAttr_ok P (I.toks tk) r₂ hH hl hs r) (fun _ s₃ h₃ => wpAny_release ?_) fun _ _ y => y))))
    obtain ⟨I₃, z₃⟩ := h₃
    have ex := x7.ext (I.toks tk) z₃
    have sx : SxP G (env :: outer) env μ h (okF .none) (fun c loc H => X c loc H) (.ref ea) s₃ := ⟨hi, μi, _, _, μ', c, T, fl, ea, x1, x2, x3, x4.trans z₃, I₃, rfl, ex, x8, x9, x10, x11, q⟩
    refine wpAny_execs_cons ?_
    rw [arm_exec_Raise]
    show wpAny _ A (do standAt rp; raiseStmt env none none) _ _ _
    refine wpAny_bind (wpAny_standAt ?_)
    unfold raiseStmt
    refine wpAny_bind (wpAny_handled ?_)
    rw [hh]
    dsimp only
    refine wpAny_bind (wpAny_rule ?_)
    obtain ⟨oe, vs, h1, h2, h3, h4, h5, h6, h7⟩ := ex
    cases T with
    | none => cases x8.1
    | some t =>
      refine wpAny_bind (wpAny_field h1 h4 h7.1 ?_)
      rw [if_neg (show ¬ ((Value.ref t == Value.none) = true) from by simp)]
      refine wpAny_bind (wpAny_mono (sx.flight env.frame) (fun _ s'' q => wpAny_throw ?_) fun _ _ y => y)
      rw [hf] at q
      exact q.weaken (fun _ _ z => z.g (.inr rfl)) fun _ _ _ z => z
  · obtain ⟨C, hc, hr, hr', q⟩ := x12
    obtain ⟨oe, vs, h1, h2, h3, h4, h5, h6, h7⟩ := x7
    refine wpAny_execs_cons (raise_in P hh h1 h4 (h6 (by rw [← P.raw]; exact hr)) hr' hc x1 x2 x3 x4 I q)

theorem handle_ok (P : POk G k p) {A : Around} {env : Env} {outer : List Env} {L : Addr} {μ : List Addr} {h : Heap} {e : Value} {Q : Fl → Loc → Hp → Prop} {X : Value → Loc → Hp → Prop} (hA : AOk A (env :: outer) k) (hf : env.frame = some L) : ∀ {hs : List ExceptHandler} {s : Shared},
    SxP G (env :: outer) env μ h (okF .none) (fun c loc H => awH p env.scope.names c hs loc H Q X) e s →
    wpAny (model G.prog G.w) A (handleBy e env hs) (SsP G (env :: outer) env μ h Q) (SxP G (env :: outer) env μ h (okG L) X) s := by
  intro hs
  induction hs with
  | nil => intro s x; obtain ⟨_, _, _, _, _, _, _, _, _, _, _, z, _⟩ := x.open; exact False.elim z
  | cons hd rest ih =>
    intro s x
    obtain ⟨c, loc, H, μ', ea, oe, rfl, I, F, h1, h2, q, mk⟩ := x.open
    obtain ⟨x, px, b, suite, hpos, rfl, c', hc, hit, hsub, q⟩ := q
    obtain ⟨C, rfl, hexc, hd⟩ := excD_of hc
    have hA' : (A.mark (some (.ref ea))).frames = some (env :: outer) := hA.frames
    have hh' : (A.mark (some (.ref ea))).handled = some (.ref ea) := rfl
    refine wpAny_handleBy_cons (codeAny_handlers_test (wpAny_mono (name_ok P I F (hd _)) (fun cv s₁ h₁ => ?_) fun _ _ y => y)) (by intro z; cases z)
    obtain ⟨rfl, r⟩ := h₁
    obtain rfl := r.inv
    refine wpAny_mono (P.sub c _ hit hsub _ _ _ ea oe I.stays h1 h2) (fun bb s₂ h₂ => ?_) fun _ _ y => y
    obtain ⟨rfl, rfl⟩ := h₂
    cases bb with
    | true =>
      refine codeAny_handlers_suite (wpAny_mono ((mk (fun c loc H => awU p env.scope.names c (b :: suite) loc H Q X) q).flight none) (fun _ s₃ h₃ => ?_) fun _ _ y => y)
      exact wpAny_mono (suite_ok P hh' hA' hf h₃) (fun f s₄ h₄ => h₄) (fun e s₄ h₄ => SxP.noted hA' hf h₄ fun s₅ q => q.cameBack hf)
    | false => exact ih (mk (fun c loc H => awH p env.scope.names c rest loc H Q X) q)

theorem ss_Try (P : POk G k p) {body : List Stmt} {hs : List ExceptHandler} {pos : Pos} (hb : SSs G k p body) : SS G k p (.Try body hs [] [] pos) := by
  intro A env outer L loc H Q X s μ hA hf I F h
  obtain ⟨hne, h⟩ := h
  cases hs with
  | nil => cases hne
  | cons h₀ hs =>
    refine wpAny_Try_except (wpAny_mono (hb hA hf I F h) (fun f s₁ h₁ => ?_) (fun e s₁ h₁ => ?_))
    · cases f with
      | next => exact wpAny_execs_nil h₁
      | _ => exact h₁
    · refine wpAny_mono (h₁.note hA.frames hf) (fun _ s₂ h₂ => ?_) fun _ _ y => y
      refine wpAny_mono (h₂.flight none) (fun _ s₃ h₃ => ?_) fun _ _ y => y
      exact handle_ok P hA hf h₃

theorem ss_RaiseAny (P : POk G k p) (exc cause : Option Expr) (pos : Pos) : SS G k p (.Raise exc cause pos) := by
  intro A env outer L loc H Q X s μ hA hf I F h
  obtain ⟨x, px, m, n, cp, pc, c, rfl, rfl, hc, q⟩ := h
  exact ss_Raise P x px m n cp pc pos hA hf I F ⟨x, px, m, n, cp, pc, c, rfl, rfl, hc, q⟩

theorem p51 {m a b c d e n : Nat} (q : m = 1 + a + b + c + d + e) (h : m < n + 1) : a < n := by omega
theorem p53 {m a b c d e n : Nat} (q : m = 1 + a + b + c + d + e) (h : m < n + 1) : c < n := by omega
theorem stmt_all (P : POk G k p) : ∀ n, (∀ st : Stmt, sizeOf st < n → SS G k p st) ∧ (∀ sts : List Stmt, sizeOf sts < n → SSs G k p sts) := by
  intro n
  induction n with
  | zero => exact ⟨fun _ h => absurd h (Nat.not_lt_zero _), fun _ h => absurd h (Nat.not_lt_zero _)⟩
  | succ n ih =>
    obtain ⟨i1, i2⟩ := ih
    refine ⟨fun st h => ?_, fun sts h => ?_⟩
    · have bad : ∀ st, (∀ nm loc H Q X, awS p nm st loc H Q X → False) → SS G k p st := fun st z => by
        intro A env outer L loc H Q X s μ hA hf I F h
        exact (z _ _ _ _ _ h).elim
      cases st with
      | Expr e pos => exact @ss_Expr G k p P e pos
      | Return e pos => exact @ss_Return G k p P e pos
      | Break pos => exact @ss_Break G k p pos
      | Continue pos => exact @ss_Continue G k p pos
      | If t b e pos => exact @ss_If G k p P _ _ _ _ (i2 b (p42 (Stmt.If.sizeOf_spec ..) h)) (i2 e (p43 (Stmt.If.sizeOf_spec ..) h))
      | For t it body orelse pos =>
        cases orelse with
        | nil => exact @ss_For G k p P _ _ _ _ (i2 body (p53 (Stmt.For.sizeOf_spec ..) h))
        | cons _ _ => refine @bad _ fun _ _ _ _ _ q => q
      | Try body hs orelse fin pos =>
        cases orelse with
        | nil =>
          cases fin with
          | nil => exact @ss_Try G k p P _ _ _ (i2 body (p51 (Stmt.Try.sizeOf_spec ..) h))
          | cons _ _ => refine @bad _ fun _ _ _ _ _ q => q
        | cons _ _ => refine @bad _ fun _ _ _ _ _ q => q
      | Assign ts e pos =>
        rcases ts with _ | ⟨t, _ | ⟨t', r⟩⟩
        · refine @bad _ fun _ _ _ _ _ q => q
        · cases t with
          | Name x px => exact @ss_AssignName G k p P x px e pos
          | Attribute o name pa => exact @ss_AssignAttr G k p P o name pa e pos
          | Subscript o i pa => exact @ss_AssignSub G k p P o i pa e pos
          | _ => refine @bad _ fun _ _ _ _ _ q => q
        · refine @bad _ fun _ _ _ _ _ q => by cases t <;> exact q
      | Raise exc cause pos =>
        exact @ss_RaiseAny G k p P exc cause pos
      | _ => refine @bad _ fun _ _ _ _ _ q => q
    · cases sts with
      | nil => exact @sss_nil G k p
      | cons st r => exact @sss_cons G k p _ _ (i1 st (p21 (List.cons.sizeOf_spec ..) h)) (i2 r (p22 (List.cons.sizeOf_spec ..) h))

theorem soundS (P : POk G k p) (sts : List Stmt) : SSs G k p sts := (stmt_all P (sizeOf sts + 1)).2 sts (Nat.lt_succ_self _)
end

end YV
end

section
set_option autoImplicit false
set_option linter.unusedVariables false
set_option maxRecDepth 10000
namespace YV
open PySem PySem.Calls PyProof.Rows PySem.W

theorem Ext.dropAll {full : Bool} {own : List Addr} {h h' : Heap} {μ μ' : List Addr} (x : Ext full own h μ h' μ') (hn : ∀ a ∈ own, h.get? a = none) : Ext full [] h μ h' μ' where
  pre := x.pre
  new := x.new
  keep := fun b o e hμ _ hf => x.keep b o e hμ (fun q => by rw [hn b q] at e; cases e) hf
  dom := fun b o e _ => x.dom b o e fun q => by rw [hn b q] at e; cases e
  apart := fun _ h => nomatch h

section
variable {G : Gl} {l : List Env} {k : Nat} {p : Pg}

theorem Inv.tail {env : Env} {μ : List Addr} {H : Hp} {s : Shared} (I : Inv G (env :: l) μ H s) : Inv G l μ H s :=
  ⟨I.stays, I.gens, I.os, I.frames.2.2, I.fresh, I.nodup, fun e he => I.apart e (.tail _ he), fun e he => I.fd e (.tail _ he), I.len, I.objs⟩

theorem bindL_not {kd : Str → Option NameKind} {y : Str} {xs : List Str} : ∀ {vs : List Value} {m : Str → Option Value}, y ∉ xs → bindL kd (xs.zip vs) m y = m y := by
  induction xs with
  | nil => intro _ _ _; rfl
  | cons x xs ih =>
    intro vs m h
    cases vs with
    | nil => rfl
    | cons v vs =>
      refine (ih fun q => h (.tail _ q)).trans ?_
      by_cases hk : kd x = some .local
      · rw [if_pos hk]; exact if_neg fun q => h (by rw [q]; exact .head _)
      · rw [if_neg hk]
theorem bindC_not {kd : Str → Option NameKind} {y : Str} {xs : List Str} : ∀ {vs : List Value} {m : Str → Option Value}, y ∉ xs → bindC kd (xs.zip vs) m y = m y := by
  induction xs with
  | nil => intro _ _ _; rfl
  | cons x xs ih =>
    intro vs m h
    cases vs with
    | nil => rfl
    | cons v vs =>
      refine (ih fun q => h (.tail _ q)).trans ?_
      by_cases hk : kd x = some .local
      · rw [if_pos hk]
      · rw [if_neg hk]; exact if_neg fun q => h (by rw [q]; exact .head _)

theorem bindL_zip {kd : Str → Option NameKind} {h : Heap} {μ : List Addr} {y : Str} {d : D} (hk : kd y = some .local) {xs : List Str} : ∀ {vs : List Value} {ds : List D} {m : Str → Option Value}, Reps h μ vs ds → xs.Nodup → getL y (xs.zip ds) = some d →
    ∃ v, bindL kd (xs.zip vs) m y = some v ∧ Rep h μ v d := by
  induction xs with
  | nil => intro _ _ _ _ _ e; cases e
  | cons x xs ih =>
    intro vs ds m r hn e
    cases ds with
    | nil => cases e
    | cons d' ds =>
      obtain ⟨v, vs, rfl, r, rs⟩ := r.inv
      obtain ⟨h1, h2⟩ := List.nodup_cons.mp hn
      have e : (if x = y then some d' else getL y (xs.zip ds)) = some d := e
      by_cases hy : x = y
      · subst hy
        rw [if_pos rfl] at e; cases e
        exact ⟨v, (bindL_not h1).trans (by rw [if_pos hk, if_pos rfl]), r⟩
      · rw [if_neg hy] at e
        exact ih rs h2 e
theorem bindC_zip {kd : Str → Option NameKind} {h : Heap} {μ : List Addr} {y : Str} {d : D} (hk : kd y ≠ some .local) {xs : List Str} : ∀ {vs : List Value} {ds : List D} {m : Str → Option Value}, Reps h μ vs ds → xs.Nodup → getL y (xs.zip ds) = some d →
    ∃ v, bindC kd (xs.zip vs) m y = some v ∧ Rep h μ v d := by
  induction xs with
  | nil => intro _ _ _ _ _ e; cases e
  | cons x xs ih =>
    intro vs ds m r hn e
    cases ds with
    | nil => cases e
    | cons d' ds =>
      obtain ⟨v, vs, rfl, r, rs⟩ := r.inv
      obtain ⟨h1, h2⟩ := List.nodup_cons.mp hn
      have e : (if x = y then some d' else getL y (xs.zip ds)) = some d := e
      by_cases hy : x = y
      · subst hy
        rw [if_pos rfl] at e; cases e
        exact ⟨v, (bindC_not h1).trans (by rw [if_neg hk, if_pos rfl]), r⟩
      · rw [if_neg hy] at e
        exact ih rs h2 e

/-- what a function's form must be like -/
noncomputable def fnOk (xs : List Str) (fd : FuncData) : Bool :=
  fd.closure.isEmpty && fd.globals == mainGlobals && fd.builtins == builtinsNs && xs.all (storeOk fd.scope.names) && decide xs.Nodup && fd.scope.kind == .function && !fd.scope.isCoroutine && !fd.scope.isGenerator &&
  fd.scope.names.lookup (Str.ofString "__debug__") == none && fd.scope.names.lookup (Str.ofString "__classdict__") == none && fd.scope.names.all (fun q => q.2 != .free) && decide ((cellsFrom 0 fd.scope.names []).map (·.1)).Nodup

theorem mem_lookup_nodup : ∀ {l : List (Str × Addr)} {x : Str} {c : Addr}, (l.map (·.1)).Nodup → (x, c) ∈ l → l.lookup x = some c
  | (y, b) :: r, x, c, hn, hm => by
    obtain ⟨h1, h2⟩ := List.nodup_cons.mp hn
    rw [List.lookup_cons]
    rcases List.mem_cons.mp hm with q | q
    · cases q; simp
    · have hne : x ≠ y := fun z => h1 (by rw [← z]; exact List.mem_map.mpr ⟨_, q, rfl⟩)
      have : (x == y) = false := by simpa using hne
      rw [this]
      exact mem_lookup_nodup h2 q

theorem fn_cw (P : POk G k p) {f : Addr} {o : Obj} {fd : FuncData} {body : List Stmt} (ho : G.base.get? f = some o) (hdata : o.data = .func fd) (hcd : G.base.CodeRec fd.code fd.qualname) (hbody : fd.body = .stmts body) (xs : List Str)
    (hbind : ∀ vals : List Value, vals.length = xs.length → bindArgs fd ⟨vals, []⟩ = pure (xs.zip vals)) (hok : fnOk xs fd = true) {ds : List D} {H : Hp} {Q : D → Hp → Prop} {X : Value → Hp → Prop} (hlen : ds.length = xs.length)
    (w : awSs p fd.scope.names body (xs.zip ds) H (fun f _ H' => Q (match f with | .ret d => d | _ => .none) H') (fun c _ H' => X c H')) : CW G (k + 1) f ds H Q X := by
  intro A l s μ vs hA I r
  unfold fnOk at hok
  simp only [Bool.and_eq_true, beq_iff_eq, decide_eq_true_eq, Bool.not_eq_true', List.isEmpty_iff] at hok
  obtain ⟨⟨⟨⟨⟨⟨⟨⟨⟨⟨⟨c1, c2⟩, c3⟩, c4⟩, c5⟩, c6⟩, c7⟩, c8⟩, c9⟩, c10⟩, c11⟩, c12⟩ := hok
  have hvl : vs.length = xs.length := r.length.trans hlen
  have hkb : (xs.zip vs).all (fun y => fd.scope.names.lookup y.1 == some .local || fd.scope.names.lookup y.1 == some .cell) = true := by
    rw [List.all_eq_true]
    intro y hy
    have := List.all_eq_true.mp c4 y.1 (List.of_mem_zip hy).1
    exact this
  have hroom : A.depth < recursionLimit := by have := hA.depth; show A.depth < 1000; omega
  refine codeAny_call_cells hroom (I.stays _ _ ho) hdata (P.nolimit.keeps I.stays) (hcd.keeps I.stays) hbody (hbind vs hvl) c1 (kindsX hkb _) (fun s₁ x => ?_) c7 c8 c6
  generalize henv : callEnvC fd s.heap.objs.size f = env at x ⊢
  have eL : env.locals = s.heap.objs.size := by rw [← henv]; rfl
  have eF : env.frame = some s.heap.objs.size := by rw [← henv]; rfl
  have eC : env.cells = cellsFrom (s.heap.objs.size + 1) fd.scope.names [] := by rw [← henv]; rfl
  have eS : env.scope = fd.scope := by rw [← henv]; rfl
  have kp := x.toInCall.keep
  have hL0 : s.heap.get? s.heap.objs.size = none := push_fresh
  have above0 : ∀ c, s.heap.objs.size ≤ c → s.heap.get? c = none := fun c hc => by
    cases e : s.heap.get? c with
    | none => rfl
    | some o => exact absurd (Heap.lt_size e) (Nat.not_lt.mpr hc)
  have base0 : ∀ c, s.heap.get? c = none → G.base.get? c = none := fun c hc => none_back I.stays hc
  have mu0 : ∀ c, s.heap.get? c = none → c ∉ μ := fun c hc q => by obtain ⟨o, ho⟩ := I.live _ q; rw [hc] at ho; cases ho
  obtain ⟨h₁, tk, rfl⟩ := x.toInCall.same
  have hns := x.toInCall.ns
  have I₀ : Inv G l μ H { s with heap := h₁, toks := tk } := I.keeps kp
  have hfr : ∃ o es n, h₁.get? s.heap.objs.size = some o ∧ o.data = .dict es n := by
    obtain ⟨o, es, ep, e1, e2, _⟩ := hns
    rw [eL] at e1
    exact ⟨o, es, ep, e1, e2⟩
  have I₁ : Inv G (env :: l) μ H { s with heap := h₁, toks := tk } := by
    refine ⟨I₀.stays, I₀.gens, I₀.os, ⟨by rw [eS, c6]; decide, ?_, I₀.frames⟩, I₀.fresh, I₀.nodup, fun e he L hL => ?_, fun e he L hL => ?_, I₀.len, I₀.objs⟩
    · obtain ⟨o, es, n, e1, e2⟩ := hfr
      exact ⟨s.heap.objs.size, o, eF, base0 _ hL0, e1, fun vs q => by rw [e2] at q; cases q⟩
    · rcases List.mem_cons.mp he with rfl | he
      · rw [eF] at hL; cases hL; exact mu0 _ hL0
      · exact I₀.apart e he L hL
    · rcases List.mem_cons.mp he with rfl | he
      · rw [eF] at hL; cases hL; exact hfr
      · exact I₀.fd e he L hL
  have hkd : ∀ y, env.kindOf y = fd.scope.names.lookup y := fun y => by unfold Env.kindOf; rw [eS]
  have hnf : ∀ y, env.kindOf y ≠ some .free := fun y q => by
    rw [hkd] at q
    have hm : (y, NameKind.free) ∈ fd.scope.names := by
      clear x hns I₁ hkd hkb c4 hbind c12 c9 c10
      generalize fd.scope.names = nm at q
      induction nm with
      | nil => cases q
      | cons z r ih =>
        obtain ⟨a, b⟩ := z
        rw [List.lookup_cons] at q
        split at q
        · rename_i hz; cases q; rw [beq_iff_eq.mp hz]; exact .head _
        · exact .tail _ (ih q)
    have := List.all_eq_true.mp c11 _ hm
    simp at this
  have hnames : (env.cells.map (·.1)).Nodup := by
    rw [eC, ← cellsFrom_names fd.scope.names 0 (s.heap.objs.size + 1) [] [] rfl]
    exact c12
  have rs : Reps h₁ μ vs ds := r.keeps kp
  have F₁ : Fok G env (xs.zip ds) μ h₁ := by
    refine ⟨by rw [eS]; exact c6, by rw [hkd]; exact c9, by rw [hkd]; exact c10, by rw [← henv]; exact c2, by rw [← henv]; exact c3, ⟨_, hns, fun y d e kk => bindL_zip kk rs c5 e⟩, fun y d e kk => ?_, fun y kk => ?_, fun q hq => ?_, fun a b c ha hb => ?_, by rw [eL]; exact base0 _ hL0, by rw [eL]; exact mu0 _ hL0⟩
    · have kc : env.kindOf y = some .cell := kk.elim id fun q => absurd q (hnf y)
      obtain ⟨v, hv, rv⟩ := bindC_zip (m := fun _ => none) (kd := env.kindOf) (by rw [kc]; decide) rs c5 e
      have hs := cellsFrom_some (x := y) fd.scope.names (s.heap.objs.size + 1) [] (.inl (by rw [← hkd]; exact kc))
      rw [← eC] at hs
      obtain ⟨c, hc⟩ := Option.isSome_iff_exists.mp hs
      exact ⟨c, v, hc, hv ▸ x.cell y c hc, rv⟩
    · have kc : env.kindOf y = some .cell := kk.elim id fun q => absurd q (hnf y)
      have hs := cellsFrom_some (x := y) fd.scope.names (s.heap.objs.size + 1) [] (.inl (by rw [← hkd]; exact kc))
      rw [← eC] at hs
      exact Option.isSome_iff_exists.mp hs
    · have := x.cell q.1 q.2 (mem_lookup_nodup hnames hq)
      refine ⟨⟨_, this⟩, base0 _ (above0 _ ?_)⟩
      have := x.above q.1 q.2 hq
      rw [eL] at this
      exact Nat.le_of_lt this
    · exact name_of_addr x.apart (mem_of_lookup ha) (mem_of_lookup hb)
  have own0 : ∀ a ∈ own env, s.heap.get? a = none := fun a ha => by
    rcases List.mem_cons.mp ha with rfl | ha
    · rw [eL]; exact hL0
    · obtain ⟨q, hq, rfl⟩ := List.mem_map.mp ha
      have := x.above q.1 q.2 hq
      rw [eL] at this
      exact above0 _ (Nat.le_of_lt this)
  have x₁ : Ext true (own env) s.heap μ h₁ μ := Ext.of_keeps kp fun a ha => mu0 _ (own0 a ha)
  have hA' : AOk (A.deeper env) (env :: l) k := by
    refine ⟨hA.handled, ?_, ?_, ?_⟩
    · show A.frames.map (env :: ·) = _
      rw [hA.frames]; rfl
    · show A.depth + 1 + 4 * k ≤ 900
      have := hA.depth; omega
    · show A.units + 3 + 20 * k + 100 < 9000
      have := hA.units; omega
  rw [← eS] at w
  refine wpAny_mono (soundS P body hA' eF I₁ F₁ w) (fun fl s' h' => ?_) (fun e s' h' => ?_)
  · obtain ⟨μ', H', loc', f', I', x', F', hf, q⟩ := h'
    have y := (x₁.trans x').dropAll own0
    cases hf with
    | ret r => exact ⟨μ', H', _, I'.tail, y, r, q⟩
    | next => exact ⟨μ', H', _, I'.tail, y, .none, q⟩
    | brk => exact ⟨μ', H', _, I'.tail, y, .none, q⟩
    | cont => exact ⟨μ', H', _, I'.tail, y, .none, q⟩
  · unfold leaving
    refine wpAny_bind (wpAny_mono (h'.note hA'.frames eF) (fun _ s₂ h₂ => ?_) fun _ _ q => q)
    · refine wpAny_mono (h₂.flight none) (fun _ s₃ h₃ => ?_) fun _ _ q => q
      obtain ⟨hi, μi, loc, H', μ', c, T, fl, ea, y1, y2, y3, y4, y5, rfl, y7, ⟨y8, y8'⟩, y9, y10, y11, y12⟩ := h₃
      cases T with
      | none => cases y8
      | some T =>
        have z := (x₁.trans y1).dropAll own0
        subst y8'
        exact ⟨μ', H', c, y5.tail, z.trans y4, ⟨ea, T, rfl, y7, none_of_ext z y9 (by simp), none_of_ext z (y10 T rfl) (by simp)⟩, y12⟩
end

end YV
end

section
set_option autoImplicit false
set_option linter.unusedVariables false
set_option maxRecDepth 10000
namespace YV
open PySem PySem.Calls PyProof.Rows PySem.W

section
variable {G : Gl} {l : List Env} {k : Nat} {p : Pg}

/-- a new object's dict -/
theorem Inv.newDict {μ : List Addr} {H : Hp} {s : Shared} (I : Inv G l μ H s) {h' : Heap} {a : Addr} (hk : ∀ b o, s.heap.get? b = some o → h'.get? b = some o)
    (hn : s.heap.get? a = none) (ha : h'.Ns1 a fun _ => none) {tk : Nat} :
    Inv G l (μ ++ [a]) (H ++ [.dict []]) { s with heap := h', toks := tk } ∧ Ext true [] s.heap μ h' (μ ++ [a]) := by
  have hm : a ∉ μ := fun q => by obtain ⟨o, e⟩ := I.live a q; rw [hn] at e; cases e
  have hx : Ext true [] s.heap μ h' (μ ++ [a]) := ⟨⟨[a], rfl⟩, fun b hb => by
    rcases List.mem_append.mp hb with q | q
    · exact .inl q
    · rw [List.mem_singleton.mp q]; exact .inr hn, fun b o e _ _ _ => ⟨o.slots, hk b o e, fun _ => rfl⟩, fun b o e _ => ⟨o, hk b o e⟩, fun _ h => nomatch h⟩
  refine ⟨⟨fun b o e => hk b o (I.stays b o e), I.gens, I.os, I.frames.of_keeps fun b o e _ => ⟨o, hk b o e, rfl⟩, ?_, ?_, ?_, fun env he L hL => let ⟨o, es, n, h1, h2⟩ := I.fd env he L hL; ⟨o, es, n, hk _ _ h1, h2⟩, ?_, ?_⟩, hx⟩
  · intro b hb
    rcases List.mem_append.mp hb with q | q
    · exact I.fresh b q
    · rw [List.mem_singleton.mp q]
      exact none_back I.stays hn
  · exact List.nodup_append.mpr ⟨I.nodup, by simp, fun b hb c hc q => hm (by rw [← List.mem_singleton.mp hc, ← q]; exact hb)⟩
  · intro env he L hL hb
    rcases List.mem_append.mp hb with q | q
    · exact I.apart env he L hL q
    · have := (I.frames.mem (List.mem_filterMap.mpr ⟨env, he, hL⟩)).2
      obtain ⟨o, ho, _⟩ := this
      rw [List.mem_singleton.mp q, hn] at ho; cases ho
  · simp [I.len]
  · intro i b o e1 e2
    have len := I.len
    by_cases hi : i < μ.length
    · rw [List.getElem?_append_left hi] at e1
      rw [List.getElem?_append_left (by omega)] at e2
      exact (I.objs i b o e1 e2).mono (fun ob q => hk b ob q) fun _ _ r => r.ext hx OwnOk.nil
    · rw [List.getElem?_append_right (by omega)] at e1 e2
      have hi0 : i - μ.length = 0 := by
        cases hq : i - μ.length with
        | zero => rfl
        | succ n => rw [hq] at e1; simp at e1
      have hi1 : i - H.length = 0 := by omega
      rw [hi0] at e1; rw [hi1] at e2
      simp at e1 e2
      subst e1 e2
      exact ⟨_, ha, fun y => by simp [getL]⟩

theorem cls_cw (P : POk G k p) {C fI : Addr} (hm : makesIn G.K C = true) (hi : findIn G.K (.ref C) "__init__" = some (some (.ref fI))) (hf : typeIn G.K (.ref fI) = some (.type "function")) {ds : List D} {H : Hp} {Q : D → Hp → Prop} {X : Value → Hp → Prop}
    (w : CW G k fI (.inst C H.length :: ds) (H ++ [.dict []]) (fun d H' => d = .none ∧ Q (.inst C H.length) H') X) : CW G (k + 1) C ds H Q X := by
  intro A l s μ vs hA I r
  have X₀ := I.K P
  obtain ⟨h, g, d, t, os⟩ := s
  have hdx0 : h.get? h.objs.size = none := push_fresh
  have k1 : ∀ b o, h.get? b = some o → ((h.push emptyDict).push (instObj C h.objs.size)).get? b = some o := fun b o e => Heap.get?_push_of_some _ (Heap.get?_push_of_some _ e)
  have hdx : ((h.push emptyDict).push (instObj C h.objs.size)).get? h.objs.size = some emptyDict := Heap.get?_push_of_some _ (Heap.get?_push_size _ rfl)
  have hx : ((h.push emptyDict).push (instObj C h.objs.size)).get? (h.objs.size + 1) = some (instObj C h.objs.size) := Heap.get?_push_at (by simp only [Heap.size_push]) rfl
  have hns : ((h.push emptyDict).push (instObj C h.objs.size)).Ns1 h.objs.size fun _ => none := Heap.Ns1.of_empty ⟨_, #[], _, hdx, rfl, fun e he => absurd he (by simp), fun _ => rfl⟩
  obtain ⟨I', x'⟩ := I.newDict (tk := t) k1 hdx0 hns
  have hxm : h.objs.size + 1 ∉ μ ++ [h.objs.size] := fun q => by
    rcases List.mem_append.mp q with q | q
    · obtain ⟨o, ho⟩ := I.live _ q
      exact absurd (Heap.lt_size ho) (Nat.not_lt.mpr (Nat.le_succ _))
    · exact absurd (List.mem_singleton.mp q) (Nat.succ_ne_self _)
  have rx : Rep ((h.push emptyDict).push (instObj C h.objs.size)) (μ ++ [h.objs.size]) (.ref (h.objs.size + 1)) (.inst C H.length) := .inst hx hxm (by rw [← I.len]; simp)
  have hA' : AOk (A.under (.builtin "type.__call__" ⟨.ref C :: vs, []⟩)) l k := by
    refine ⟨hA.handled, ?_, ?_, ?_⟩
    · have e : (A.under (.builtin "type.__call__" ⟨.ref C :: vs, []⟩)).frames = A.frames := rfl
      rw [e, hA.frames]
    · have e : (A.under (.builtin "type.__call__" ⟨.ref C :: vs, []⟩)).depth = A.depth + 1 := rfl
      have := hA.depth; rw [e]; omega
    · have e : (A.under (.builtin "type.__call__" ⟨.ref C :: vs, []⟩)).units = A.units + 1 := rfl
      have := hA.units; rw [e]; omega
  refine make_core (makes_of X₀ hm) (looks_findIn X₀ hi) (fun self => bind_fn X₀ self hf) (.inl (by simp)) ?_
  refine codeAny_mono (w _ l _ (μ ++ [h.objs.size]) (.ref (h.objs.size + 1) :: vs) hA' I' (.cons rx (r.ext x' OwnOk.nil))) fun rr s' hr => ?_
  unfold RetP at hr
  unfold InitBack
  split at hr
  · obtain ⟨μ', H', dd, I₂, x₂, r₂, rfl, q⟩ := hr
    cases r₂
    exact ⟨rfl, μ', H', _, I₂, x'.trans x₂, rx.ext x₂ OwnOk.nil, q⟩
  · exact hr.elim
  · obtain ⟨μ', H', c, I₂, x₂, fl, q⟩ := hr
    exact ⟨μ', H', c, I₂, x'.trans x₂, fl.back x', q⟩
end

end YV
end

section
set_option autoImplicit false
set_option linter.unusedVariables false
set_option linter.unusedSimpArgs false
set_option maxRecDepth 100000
set_option maxHeartbeats 4000000
namespace YV
open PySem PySem.Calls PyProof.Rows PySem.W

theorem ofString_inj {a b : String} : (Str.ofString a = Str.ofString b) = (a = b) := by
  refine propext ⟨fun h => ?_, fun h => by rw [h]⟩
  unfold Str.ofString at h
  simp only [cpsOfBytes_string, Str.mk.injEq] at h
  have h2 : a.toList.map Char.toNat = b.toList.map Char.toNat := by simpa using congrArg Array.toList h
  have h3 : a.toList = b.toList := by
    refine (List.map_inj_right (f := Char.toNat) fun x y e => ?_).mp h2
    exact Char.ext (UInt32.toNat_inj.mp e)
  exact String.toList_inj.mp h3

noncomputable def fnAt (K : PySem.W.Frag) (a : Addr) : FuncData := match K.lookup a with
  | some ⟨_, _, .func fd, _⟩ => fd
  | _ => default
noncomputable def bodyAt (K : PySem.W.Frag) (a : Addr) : List Stmt := match (fnAt K a).body with
  | .stmts b => b
  | _ => []

/-- all that a function's call needs, seen in K -/
noncomputable def fnSeen (K : PySem.W.Frag) (a : Addr) (xs : List Str) : Bool := match K.lookup a with
  | some ⟨_, _, .func fd, _⟩ => (match fd.body with
    | .stmts _ => fnOk xs fd && codeIn K fd.code fd.qualname
    | _ => false)
  | _ => false


theorem fn_cwK {G : Gl} {k : Nat} {p : Pg} (P : POk G k p) (f : Addr) (xs : List Str) (hf : fnSeen G.K f xs = true) (hbind : ∀ vals : List Value, vals.length = xs.length → bindArgs (fnAt G.K f) ⟨vals, []⟩ = pure (xs.zip vals))
    {ds : List D} {H : Hp} {Q : D → Hp → Prop} {X : Value → Hp → Prop} (hlen : ds.length = xs.length)
    (w : awSs p (fnAt G.K f).scope.names (bodyAt G.K f) (xs.zip ds) H (fun f _ H' => Q (match f with | .ret d => d | _ => .none) H') (fun c _ H' => X c H')) : CW G (k + 1) f ds H Q X := by
  unfold fnSeen at hf
  split at hf
  · rename_i oc od fd sl ho
    split at hf
    · rename_i body hb
      simp only [Bool.and_eq_true] at hf
      have e : fnAt G.K f = fd := by unfold fnAt; rw [ho]
      have eb : bodyAt G.K f = body := by unfold bodyAt; rw [e, hb]
      rw [e] at hbind
      rw [e, eb] at w
      exact fn_cw P (P.X _ _ ho) rfl (codeRec_of P.X hf.2) hb xs hbind hf.1 hlen w
    · cases hf
  · cases hf

noncomputable def glT : List (Str × D) := [
  (Str.ofString "four_bytes", .glob 80),
  (Str.ofString "from_four_bytes", .glob 87),
  (Str.ofString "sealed", .glob 94),
  (Str.ofString "seal_holds", .glob 101),
  (Str.ofString "encode_slot", .glob 108),
  (Str.ofString "decode_slot", .glob 115),
  (Str.ofString "encode_header", .glob 122),
  (Str.ofString "decode_header", .glob 129),
  (Str.ofString "Disk", .glob 163),
  (Str.ofString "Vault", .glob 282),
  (Str.ofString "_law_four", .glob 295),
  (Str.ofString "_law_number", .glob 302),
  (Str.ofString "_law_seal", .glob 309),
  (Str.ofString "_law_damage", .glob 316),
  (Str.ofString "_law_whole", .glob 323),
  (Str.ofString "_law_slot_due", .glob 330),
  (Str.ofString "_law_header_due", .glob 337),
  (Str.ofString "_law_same", .glob 342),
  (Str.ofString "_law_slot_read", .glob 349),
  (Str.ofString "_law_header_read", .glob 356),
  (Str.ofString "_law_store_tells", .glob 363),
  (Str.ofString "_law_staged", .glob 368),
  (Str.ofString "PowerLoss", .glob 31),
  (Str.ofString "FormatError", .glob 44),
  (Str.ofString "CorruptError", .glob 57),
  (Str.ofString "FullError", .glob 70),
  (Str.ofString "_law_bytes", .tup [.int 0, .int 1, .int 2, .int 3, .int 127, .int 128, .int 254, .int 255]),
  (Str.ofString "_law_items", .tup [.int 0, .int 1, .int 2, .int 3, .int 13, .int 14, .int 15, .int 255, .int 256, .int (-1)]),
  (Str.ofString "len", .bi "len"),
  (Str.ofString "sum", .bi "sum"),
  (Str.ofString "min", .bi "min"),
  (Str.ofString "max", .bi "max"),
  (Str.ofString "list", .ty "list"),
  (Str.ofString "range", .ty "range"),
  (Str.ofString "type", .ty "type"),
  (Str.ofString "dict", .ty "dict"),
  (Str.ofString "int", .ty "int")]

/-- a table's row is so -/
noncomputable def objAt (K : PySem.W.Frag) (a : Addr) : Obj := (K.lookup a).getD default
noncomputable def tupT : List Str := [Str.ofString "_law_bytes", Str.ofString "_law_items"]
noncomputable def tupA (K : PySem.W.Frag) (x : Str) : Addr := match nsIn K mainGlobals x with
  | some (some (.ref a)) => a
  | _ => 0
noncomputable def seqD (o : Obj) : List Value × Nat := match o.data with
  | .seq vs n => (vs.toList, n)
  | _ => ([], 0)
noncomputable def tupV (K : PySem.W.Frag) (x : Str) : List Value × Nat := seqD (objAt K (tupA K x))
noncomputable def glSeen (K : PySem.W.Frag) (q : Str × D) : Bool := match q.2 with
  | .glob b => nsIn K mainGlobals q.1 == some (some (.ref b))
  | .bi j => nsIn K mainGlobals q.1 == some none && (bootBuiltins q.1 == some (.builtin j) && !(q.1 == Str.ofString "__name__"))
  | .ty j => nsIn K mainGlobals q.1 == some none && (bootBuiltins q.1 == some (.type j) && !(q.1 == Str.ofString "__name__"))
  | .tup ds => nsIn K mainGlobals q.1 == some (some (.ref (tupA K q.1))) && (tupT.contains q.1 && (decide ((tupV K q.1).1.length ≤ 1000) && ((intsOf ds).isSome && ((tupV K q.1).1.length == ((intsOf ds).getD []).length && ((tupV K q.1).1.zip ((intsOf ds).getD [])).all (fun y => match y.1 with | .int i _ => i == y.2 | _ => false)))))
  | _ => false

noncomputable def methT : List (Addr × Str × Addr) := [(163, Str.ofString "read", 148), (163, Str.ofString "write", 155), (163, Str.ofString "image", 160), (282, Str.ofString "home", 188), (282, Str.ofString "install", 202), (282, Str.ofString "read_slot", 216), (282, Str.ofString "stage", 237), (282, Str.ofString "commit", 272)]
noncomputable def fldT : List (Addr × Str) := [(163, Str.ofString "blocks"), (163, Str.ofString "budget"), (163, Str.ofString "writes"), (282, Str.ofString "disk"), (282, Str.ofString "slots"), (282, Str.ofString "log_size"), (282, Str.ofString "staged"), (282, Str.ofString "dead")]
noncomputable def fnT : List Addr := [80, 87, 94, 101, 108, 115, 122, 129, 163, 282, 295, 302, 309, 316, 323, 330, 337, 342, 349, 356, 363, 368]
noncomputable def excT : List Addr := [31, 44, 57, 70]
noncomputable def muT : List Pos := [⟨59, 22, 59, 46⟩, ⟨82, 22, 82, 24⟩, ⟨146, 22, 146, 24⟩, ⟨137, 22, 137, 24⟩]

noncomputable def raw1 (c : Value) : Bool := c != .ref 57
noncomputable def findM (C : Addr) (n : Str) : List (Addr × Str × Addr) → Option Addr
  | [] => none
  | (C', n', f) :: r => if C' = C ∧ n' = n then some f else findM C n r

noncomputable def mkG (w : World) (s : Shared) : Gl := { prog := PySem.Challenge.rw_sx_yvault_1.row.prog, K := heapK w.params, raw := raw1, w := w, base := s.heap, os := s.os }
noncomputable def pg (G : Gl) (k : Nat) : Pg where
  gl := fun x => getL x glT
  cw := CW G k
  meth := fun C n => findM C n methT
  sub := fun c c' => match c, c' with
    | .ref a, .ref b => if excT.contains a && excT.contains b then some (a == b) else none
    | _, _ => none
  exc := fun c => match c with | .ref a => excT.contains a | _ => false
  fn := fun a => fnT.contains a
  fld := fun C n => fldT.contains (C, n)
  sfd := fun C n => fldT.contains (C, n)
  mu := fun q => muT.contains q
  raw := raw1

noncomputable def clsD (o : Obj) : ClassData := match o.data with
  | .cls cd => cd
  | _ => default
noncomputable def dictD (o : Obj) : Array DictEntry × Nat := match o.data with
  | .dict es n => (es, n)
  | _ => (#[], 0)
noncomputable def dO (o : Obj) : Obj := { o with data := .dict (dictD o).1 (dictD o).2 }
noncomputable def strKey (e : DictEntry) : Bool := match e.key with
  | .str _ _ => true
  | _ => false
theorem strKey_of {e : DictEntry} (h : strKey e = true) : ∃ n t, e.key = .str n t := by
  unfold strKey at h
  cases hk : e.key <;> rw [hk] at h <;> first | exact ⟨_, _, rfl⟩ | cases h
noncomputable def nsO (K : PySem.W.Frag) (C : Addr) : Obj := objAt K (clsD (objAt K C)).ns
noncomputable def slotO (o : Obj) (i : Nat) : Option Value := (o.slots[i]?).getD none
noncomputable def excO (C : Addr) (o : Obj) : Obj := excClassObj (clsD o).name (clsD o).qualname C (clsD o).ns (clsD o).bases [.type "Exception", .type "BaseException", .type "object"] (clsD o).hasDict (clsD o).slotNames (clsD o).subclasses (clsD o).abstract (clsD o).collection o.dict (slotO o 0) (slotO o 1) (slotO o 2) (slotO o 3) (slotO o 5) "Exception.__new__"

noncomputable def seen (K : PySem.W.Frag) : Bool := glT.all (glSeen K) && fnT.all (fun a => keepIn K (.ref a)) &&
  methT.all (fun q => plainGet K q.1 q.2.1 && findIn K (.ref q.1) q.2.1 == some (some (.ref q.2.2)) && isFn K (.ref q.2.2) && keepIn K (.ref q.2.2)) &&
  fldT.all (fun q => plainGet K q.1 q.2 && hasDictIn K q.1 && findIn K (.ref q.1) q.2 == some none && findIn K (.ref q.1) (Str.ofString "__setattr__") == some (some (.builtin "object.__setattr__")) && plainOver K q.1 && takerIn K q.1 q.2 == some none) &&
  excT.all (fun C => nsIn K (clsD (objAt K C)).ns (Str.ofString "__init__") == some none && (dictD (nsO K C)).1.toList.all strKey)

theorem exc_K (P : Params) : excT.map (fun C => (heapK P).lookup C) = excT.map fun C => some (excO C (objAt (heapK P) C)) := by kernel_rfl
theorem excN_K (P : Params) : excT.map (fun C => (heapK P).lookup (clsD (objAt (heapK P) C)).ns) = excT.map fun C => some (dO (nsO (heapK P) C)) := by kernel_rfl
theorem tup_K (P : Params) : tupT.map (fun x => (heapK P).lookup (tupA (heapK P) x)) = tupT.map fun x => some (tupO (tupV (heapK P) x).1 (tupV (heapK P) x).2) := by kernel_rfl
theorem seen_K (P : Params) : seen (heapK P) = true := by kernel_rfl

theorem nsIn_ns {K : PySem.W.Frag} {h : Heap} (X : K.In h) {a : Addr} {m : Str → Option Value} {x : Str} {r : Option Value} (hn : h.Ns a m) (e : nsIn K a x = some r) : m x = r := by
  unfold nsIn at e
  split at e
  · rename_i oc od es n sl ho
    obtain ⟨o, es', ep, h1, h2, h3, h4⟩ := hn
    rw [X _ _ ho] at h1; cases h1; cases h2
    rw [← h4]
    unfold nsFind findBy
    rw [← Array.find?_toList]
    split at e
    · rename_i en hq; cases e; rw [hq]; rfl
    · rename_i hq
      split at e
      · cases e
      · cases e; rw [hq]; rfl
  · cases e

theorem ns_of {K : PySem.W.Frag} {h : Heap} (X : K.In h) {a : Addr} {x : Str} {r : Option Value} {o : Obj} (ho : K.lookup a = some (dO o)) (hk : (dictD o).1.toList.all strKey = true) (e : nsIn K a x = some r) : ∃ m, h.Ns a m ∧ m x = r := by
  have hn : h.Ns a (fun y => nsFind (dictD o).1 y) := ⟨_, (dictD o).1, (dictD o).2, X _ _ ho, rfl, fun en he => strKey_of (List.all_eq_true.mp hk en (Array.mem_toList_iff.mpr he)), fun _ => rfl⟩
  exact ⟨_, hn, nsIn_ns X hn e⟩

theorem mem_getL {x : Str} {d : D} (l : List (Str × D)) (h : getL x l = some d) : (x, d) ∈ l := by
  induction l with
  | nil => cases h
  | cons q r ih =>
    have h : (if q.1 = x then some q.2 else getL x r) = some d := h
    by_cases hq : q.1 = x
    · rw [if_pos hq] at h
      rw [← hq, ← Option.some.inj h]; exact .head _
    · rw [if_neg hq] at h; exact .tail _ (ih h)

theorem reps_ints {h : Heap} {ds : List D} : ∀ {vs : List Value} {is : List Int}, intsOf ds = some is → vs.length = is.length → (vs.zip is).all (fun y => match y.1 with | .int i _ => i == y.2 | _ => false) = true → Reps h [] vs ds := by
  induction ds with
  | nil =>
    intro vs is e l _
    cases e
    rw [List.eq_nil_of_length_eq_zero l]; exact .nil
  | cons d ds ih =>
    intro vs is e l q
    obtain ⟨i, r, rfl, hr, rfl⟩ := ints_cons e
    cases vs with
    | nil => cases l
    | cons v vs =>
      obtain ⟨q1, q2⟩ := Bool.and_eq_true_iff.mp (List.all_cons.symm.trans q)
      cases v <;> first | (cases q1; done) | skip
      obtain rfl := beq_iff_eq.mp q1
      exact .cons (.int _ _) (ih hr (Nat.succ.inj l) q2)

theorem findM_mem {C : Addr} {n : Str} {f : Addr} (l : List (Addr × Str × Addr)) (h : findM C n l = some f) : (C, n, f) ∈ l := by
  induction l with
  | nil => cases h
  | cons q r ih =>
    have h : (if q.1 = C ∧ q.2.1 = n then some q.2.2 else findM C n r) = some f := h
    by_cases hq : q.1 = C ∧ q.2.1 = n
    · rw [if_pos hq] at h
      rw [← hq.1, ← hq.2, ← Option.some.inj h]; exact .head _
    · rw [if_neg hq] at h; exact .tail _ (ih h)

theorem excMatch_ok {G : Gl} {A : Around} {E : Value → Shared → Prop} {s : Shared} {e C C' : Addr} {oe : Obj} (he : s.heap.get? e = some oe) (hc : oe.cls = .ref C) (o1 : ExcOk s.heap (.ref C)) (o2 : ExcOk s.heap (.ref C')) :
    wpAny (model G.prog G.w) A (excMatches (.ref e) (.ref C')) (fun r s' => r = (C == C') ∧ s' = s) E s := by
  obtain ⟨nm, q, N, bs, hdct, sn, sub, ab, col, dd, k0, k1, k2, k3, k5, mN, g1, g2, g3⟩ := o1
  obtain ⟨nm', q', N', bs', hdct', sn', sub', ab', col', dd', k0', k1', k2', k3', k5', mN', g1', g2', g3'⟩ := o2
  obtain ⟨h, g, d, t, os⟩ := s
  have hcB : (Value.ref C' :: [Value.type "Exception", .type "BaseException", .type "object"]).contains (.type "BaseException") = true := by simp
  have hcC : (Value.ref C :: [Value.type "Exception", .type "BaseException", .type "object"]).contains (.ref C') = (C == C') := by
    by_cases z : C = C'
    · subst z; simp
    · have : (Value.ref C' == Value.ref C) = false := by
        rw [beq_eq_false_iff_ne]; intro w; cases w; exact z rfl
      simp [z, this, Ne.symm z]
  have f := tc_notTuple
  unfold excMatches
  repeat (first | (with_reducible refine wpAny_loadPart_at he ?_; rw [hc]) | with_reducible refine wpAny_loadPart_at g1' ?_ | (with_reducible refine wpAny_isSubtype_exc g1' ?_; rw [hcB]) | (with_reducible refine wpAny_isSubtype_exc g1 ?_; rw [hcC]) | wp_step)
  cases hb : (C == C') <;> (wp_walk; exact ⟨rfl, rfl⟩)

theorem map_at {α β : Type} {f g : α → β} {l : List α} (h : l.map f = l.map g) {a : α} (ha : a ∈ l) : f a = g a := List.map_inj_left.mp h a ha
theorem pok {w : World} {s : Shared} (X : (heapK w.params).In s.heap) (hl : s.heap.NoLimit) {mg mb : Str → Option Value} (hg : s.heap.Ns mainGlobals mg) (hb : s.heap.Ns builtinsNs mb) (hboot : ∀ x : Str, x ≠ "__name__" → mb x = bootBuiltins x) (k : Nat) : POk (mkG w s) k (pg (mkG w s) k) := by
  obtain ⟨S, S5⟩ := Bool.and_eq_true_iff.mp (seen_K w.params)
  obtain ⟨S, S4⟩ := Bool.and_eq_true_iff.mp S
  obtain ⟨S, S3⟩ := Bool.and_eq_true_iff.mp S
  obtain ⟨S1, S2⟩ := Bool.and_eq_true_iff.mp S
  have exc1 : ∀ C, C ∈ excT → ExcOk s.heap (.ref C) := fun C hm => by
    obtain ⟨q1, q2⟩ := Bool.and_eq_true_iff.mp (List.all_eq_true.mp S5 C hm)
    obtain ⟨m, hm', hi⟩ := ns_of X (map_at (excN_K w.params) hm) q2 (beq_iff_eq.mp q1)
    exact ⟨_, _, _, _, _, _, _, _, _, _, _, _, _, _, _, m, X _ _ (map_at (exc_K w.params) hm), hm', hi⟩
  have mem : ∀ {C : Addr}, excT.contains C = true → C ∈ excT := fun h => List.contains_iff_mem.mp h
  have excs : ∀ c, (pg (mkG w s) k).exc c = true → ExcOk s.heap c := fun c hc => by
    cases c <;> first | (cases hc; done) | skip
    exact exc1 _ (mem hc)
  have fd : ∀ C n, (pg (mkG w s) k).fld C n = true → (C, n) ∈ fldT := fun C n h => by simpa [pg] using h
  refine ⟨X, hl, ⟨mg, mb, hg, hb, fun x d e => ?_⟩, fun _ _ _ _ _ h => h, fun a h => ?_, fun C n f h => ?_, fun C n h => ?_, fun C n h => ?_, excs, fun c c' b h A E s' e oe hst he hc => ?_, fun _ => rfl⟩
  · have this := List.all_eq_true.mp S1 _ (mem_getL _ e)
    cases d <;> first | (cases this; done) | skip
    · rename_i ds
      obtain ⟨t1, t⟩ := Bool.and_eq_true_iff.mp this
      obtain ⟨t2, t⟩ := Bool.and_eq_true_iff.mp t
      obtain ⟨t3, t⟩ := Bool.and_eq_true_iff.mp t
      obtain ⟨t4, t⟩ := Bool.and_eq_true_iff.mp t
      obtain ⟨t5, t6⟩ := Bool.and_eq_true_iff.mp t
      obtain ⟨is, hi⟩ := Option.isSome_iff_exists.mp t4
      rw [hi] at t5 t6
      refine ⟨_, .tup (X _ _ (map_at (tup_K w.params) (List.contains_iff_mem.mp t2))) (fun z => nomatch z) ?_ (reps_ints hi (beq_iff_eq.mp t5) t6), .inl (nsIn_ns X hg (beq_iff_eq.mp t1))⟩
      exact few t3
    · exact ⟨_, .glob _, .inl (nsIn_ns X hg (beq_iff_eq.mp this))⟩
    · obtain ⟨t1, t⟩ := Bool.and_eq_true_iff.mp this
      obtain ⟨t2, t3⟩ := Bool.and_eq_true_iff.mp t
      exact ⟨_, .ty _, .inr ⟨nsIn_ns X hg (beq_iff_eq.mp t1), (hboot x (fun z => by subst z; cases t3)).trans (beq_iff_eq.mp t2)⟩⟩
    · obtain ⟨t1, t⟩ := Bool.and_eq_true_iff.mp this
      obtain ⟨t2, t3⟩ := Bool.and_eq_true_iff.mp t
      exact ⟨_, .bi _, .inr ⟨nsIn_ns X hg (beq_iff_eq.mp t1), (hboot x (fun z => by subst z; cases t3)).trans (beq_iff_eq.mp t2)⟩⟩
  · exact List.all_eq_true.mp S2 a (List.contains_iff_mem.mp h)
  · obtain ⟨q, q4⟩ := Bool.and_eq_true_iff.mp (List.all_eq_true.mp S3 _ (findM_mem _ h))
    obtain ⟨q, q3⟩ := Bool.and_eq_true_iff.mp q
    obtain ⟨q1, q2⟩ := Bool.and_eq_true_iff.mp q
    exact ⟨q1, beq_iff_eq.mp q2, q3, q4⟩
  · obtain ⟨q, q6⟩ := Bool.and_eq_true_iff.mp (List.all_eq_true.mp S4 _ (fd C n h))
    obtain ⟨q, q5⟩ := Bool.and_eq_true_iff.mp q
    obtain ⟨q, q4⟩ := Bool.and_eq_true_iff.mp q
    obtain ⟨q, q3⟩ := Bool.and_eq_true_iff.mp q
    obtain ⟨q1, q2⟩ := Bool.and_eq_true_iff.mp q
    exact ⟨q1, q2, none, beq_iff_eq.mp q3, rfl⟩
  · obtain ⟨q, q6⟩ := Bool.and_eq_true_iff.mp (List.all_eq_true.mp S4 _ (fd C n h))
    obtain ⟨q, q5⟩ := Bool.and_eq_true_iff.mp q
    obtain ⟨q, q4⟩ := Bool.and_eq_true_iff.mp q
    obtain ⟨q, q3⟩ := Bool.and_eq_true_iff.mp q
    obtain ⟨q1, q2⟩ := Bool.and_eq_true_iff.mp q
    exact ⟨beq_iff_eq.mp q4, q5, beq_iff_eq.mp q6, q2⟩
  · cases c <;> first | (cases h; done) | skip
    cases c' <;> first | (cases h; done) | skip
    rename_i C C'
    have h' : (if excT.contains C && excT.contains C' then some (C == C') else none) = some b := h
    by_cases hm : (excT.contains C && excT.contains C') = true
    · rw [if_pos hm] at h'
      cases h'
      obtain ⟨m1, m2⟩ := Bool.and_eq_true_iff.mp hm
      have up : ∀ c, ExcOk s.heap (.ref c) → ExcOk s'.heap (.ref c) := fun c x => by
        obtain ⟨nm, q, N, bs, hdct, sn, sub, ab, col, dd, k0, k1, k2, k3, k5, mN, g1, g2, g3⟩ := x
        exact ⟨nm, q, N, bs, hdct, sn, sub, ab, col, dd, k0, k1, k2, k3, k5, mN, hst _ _ g1, g2.keeps hst, g3⟩
      exact excMatch_ok he hc (up _ (exc1 _ (mem m1))) (up _ (exc1 _ (mem m2)))
    · rw [if_neg hm] at h'; cases h'

/-- the ground that the law stands on -/
structure Bs (w : World) (s : Shared) : Prop where
  X : (heapK w.params).In s.heap
  lim : s.heap.NoLimit
  ns : ∃ mg mb, s.heap.Ns mainGlobals mg ∧ s.heap.Ns builtinsNs mb ∧ ∀ x : Str, x ≠ "__name__" → mb x = bootBuiltins x

theorem Bs.pok {w : World} {s : Shared} (B : Bs w s) (k : Nat) : POk (mkG w s) k (pg (mkG w s) k) := by
  obtain ⟨mg, mb, h1, h2, h3⟩ := B.ns
  exact YV.pok B.X B.lim h1 h2 h3 k

theorem len_succ {α : Type} {l : List α} {n : Nat} (h : l.length = n + 1) : ∃ a r, l = a :: r ∧ r.length = n := by
  cases l with
  | nil => cases h
  | cons a r => exact ⟨a, r, rfl, Nat.succ.inj h⟩
theorem bind1 {fd : FuncData} {x : Str} (h : ∀ a, bindArgs fd ⟨[a], []⟩ = pure ([x].zip [a])) (vals : List Value) (e0 : vals.length = [x].length) : bindArgs fd ⟨vals, []⟩ = pure ([x].zip vals) := by
  obtain ⟨a, l, rfl, e1⟩ := len_succ e0
  obtain rfl := List.eq_nil_of_length_eq_zero e1
  exact h a
theorem bind2 {fd : FuncData} {x y : Str} (h : ∀ a b, bindArgs fd ⟨[a, b], []⟩ = pure ([x, y].zip [a, b])) (vals : List Value) (e0 : vals.length = [x, y].length) : bindArgs fd ⟨vals, []⟩ = pure ([x, y].zip vals) := by
  obtain ⟨a, l, rfl, e1⟩ := len_succ e0
  obtain ⟨b, l, rfl, e2⟩ := len_succ e1
  obtain rfl := List.eq_nil_of_length_eq_zero e2
  exact h a b
theorem bind3 {fd : FuncData} {x y z : Str} (h : ∀ a b c, bindArgs fd ⟨[a, b, c], []⟩ = pure ([x, y, z].zip [a, b, c])) (vals : List Value) (e0 : vals.length = [x, y, z].length) : bindArgs fd ⟨vals, []⟩ = pure ([x, y, z].zip vals) := by
  obtain ⟨a, l, rfl, e1⟩ := len_succ e0
  obtain ⟨b, l, rfl, e2⟩ := len_succ e1
  obtain ⟨c, l, rfl, e3⟩ := len_succ e2
  obtain rfl := List.eq_nil_of_length_eq_zero e3
  exact h a b c
theorem bind4 {fd : FuncData} {x y z u : Str} (h : ∀ a b c d, bindArgs fd ⟨[a, b, c, d], []⟩ = pure ([x, y, z, u].zip [a, b, c, d])) (vals : List Value) (e0 : vals.length = [x, y, z, u].length) : bindArgs fd ⟨vals, []⟩ = pure ([x, y, z, u].zip vals) := by
  obtain ⟨a, l, rfl, e1⟩ := len_succ e0
  obtain ⟨b, l, rfl, e2⟩ := len_succ e1
  obtain ⟨c, l, rfl, e3⟩ := len_succ e2
  obtain ⟨d, l, rfl, e4⟩ := len_succ e3
  obtain rfl := List.eq_nil_of_length_eq_zero e4
  exact h a b c d

section
variable {p : Pg} {sc : Str → Option NK} {loc : Loc} {H : Hp} {Q : D → Hp → Prop} {X : Value → Hp → Prop} {pos apos : Pos}
theorem go_int {i : Int} {n : Nat} (q : Q (.int i) H) : awE p sc (.Constant (.int i) n pos) loc H Q X := q
theorem go_str {x : Str} {n : Nat} (q : Q (.str x) H) : awE p sc (.Constant (.str x) n pos) loc H Q X := q
theorem go_bool {b : Bool} {n : Nat} (q : Q (.bool b) H) : awE p sc (.Constant (.bool b) n pos) loc H Q X := q
theorem go_none {n : Nat} (q : Q .none H) : awE p sc (.Constant .none n pos) loc H Q X := q
theorem go_Name {x : Str} {d : D} (h : nmD p sc loc x = some d) (q : Q d H) : awE p sc (.Name x pos) loc H Q X := ⟨d, h, q⟩
theorem go_BinOp {l r : Expr} {op : Operator} (h : awE p sc l loc H (fun a H₁ => awE p sc r loc H₁ (fun b H₂ => ∃ d, binD op (view H₂ a) (view H₂ b) = some d ∧ Q d H₂) X) X) : awE p sc (.BinOp l op r pos) loc H Q X := h
theorem go_IfExp {t b e : Expr} (h : awT p sc t (fun K => awE p sc t loc H K X) loc H (fun c H₁ => if c then awE p sc b loc H₁ Q X else awE p sc e loc H₁ Q X) X) : awE p sc (.IfExp t b e pos) loc H Q X := h
theorem go_BoolOp {op : BoolOp} {e₁ e₂ : Expr} (h : awE p sc e₁ loc H (fun a H₁ => match a with
      | .bool b => if b = (op == .Or) then Q (.bool b) H₁ else awE p sc e₂ loc H₁ Q X
      | _ => False) X) : awE p sc (.BoolOp op [e₁, e₂] pos) loc H Q X := h
theorem go_Cmp1 {l r : Expr} {op : CmpOp} (hp : plainE r = true) (h : awE p sc l loc H (fun a H₁ => awE p sc r loc H₁ (fun b H₂ => ∃ c, cmpD op (view H₂ a) (view H₂ b) = some c ∧ Q (.bool c) H₂) X) X) : awE p sc (.Compare l [op] [r] pos) loc H Q X := ⟨hp, h⟩
theorem go_Cmp2 {l r₁ r₂ : Expr} {op₁ op₂ : CmpOp} (hp : plainE r₂ = true) (h : awE p sc l loc H (fun a H₁ => awE p sc r₁ loc H₁ (fun b H₂ => ∃ c, cmpD op₁ (view H₂ a) (view H₂ b) = some c ∧
      if c then awE p sc r₂ loc H₂ (fun d H₃ => ∃ c, cmpD op₂ (view H₃ b) (view H₃ d) = some c ∧ Q (.bool c) H₃) X else Q (.bool false) H₂) X) X) : awE p sc (.Compare l [op₁, op₂] [r₁, r₂] pos) loc H Q X := ⟨hp, h⟩
theorem go_CallM {o : Expr} {name : Str} {args : List Expr} (hc : ((plainBase o && args.all plainE && decide (args.length < 30) && apos.endLine == pos.line) && !decide (name = Str.ofString "get")) = true) (h : awE p sc o loc H (fun a H₁ => match a with
      | .inst C i => (∃ fs, H₁[i]? = some (.dict fs) ∧ getL name fs = none) ∧ ∃ f, p.meth C name = some f ∧ awEs p sc args loc H₁ (fun ds H₂ => p.cw f (.inst C i :: ds) H₂ Q X) X
      | .mref i => name = Str.ofString "append" ∧ (∃ l, H₁[i]? = some (.lst l)) ∧ args.length = 1 ∧ awEs p sc args loc H₁ (fun ds H₂ => ∃ l d, H₂[i]? = some (.lst l) ∧ ds = [d] ∧ l.length < 16777216 ∧ Q .none (H₂.set i (.lst (l ++ [d])))) X
      | _ => False) X) : awE p sc (.Call (.Attribute o name apos) args [] pos) loc H Q X := by
  obtain ⟨h1, h2⟩ := Bool.and_eq_true_iff.mp hc
  have hg : ¬ name = Str.ofString "get" := by intro z; rw [decide_eq_true z] at h2; cases h2
  refine ⟨h1, ?_⟩
  simp only [if_neg hg]
  exact h
/-- d.get(k, v) of a dict in a name -/
theorem go_CallG {x : Str} {name : Str} {args : List Expr} {i : Nat} {xp : Pos} (hc : ((plainBase (.Name x xp) && args.all plainE && decide (args.length < 30) && apos.endLine == pos.line) && decide (name = Str.ofString "get")) = true) (hn : nmD p sc loc x = some (.mref i))
    (h : (∃ es, H[i]? = some (.dic es)) ∧ args.length = 2 ∧ awEs p sc args loc H (fun ds H₂ => ∃ es k d, H₂[i]? = some (.dic es) ∧ ds = [.int k, d] ∧ Q ((es.lookup k).getD d) H₂) X) : awE p sc (.Call (.Attribute (.Name x xp) name apos) args [] pos) loc H Q X := by
  obtain ⟨h1, h2⟩ := Bool.and_eq_true_iff.mp hc
  have hg : name = Str.ofString "get" := of_decide_eq_true h2
  refine ⟨h1, .mref i, hn, ?_⟩
  show if name = Str.ofString "get" then _ else _
  rw [if_pos hg]
  exact h
theorem go_CallF {f : Str} {args : List Expr} {a : Addr} (hc : args.all plainE = true) (hn : nmD p sc loc f = some (.glob a)) (ho : p.fn a = true) (h : awEs p sc args loc H (fun ds H₂ => p.cw a ds H₂ Q X) X) : awE p sc (.Call (.Name f apos) args [] pos) loc H Q X := ⟨hc, .glob a, hn, ho, h⟩
theorem go_CallB {f : Str} {args : List Expr} {id : String} (hc : args.all plainE = true) (hn : nmD p sc loc f = some (.bi id)) (h : awEs p sc args loc H (fun ds H₂ => ∃ d, biD id (ds.map (view H₂)) = some d ∧ Q d H₂) X) : awE p sc (.Call (.Name f apos) args [] pos) loc H Q X := ⟨hc, .bi id, hn, rfl, h⟩
noncomputable def notDict : D → Option String
  | .ty n => if n = "dict" then none else some n
  | _ => none
theorem go_CallT {f : Str} {args : List Expr} {n : String} (hc : args.all plainE = true) (hn : (nmD p sc loc f).bind notDict = some n) (h : awEs p sc args loc H (fun ds H₂ => ∃ d, tyD n (ds.map (view H₂)) = some d ∧ Q d H₂) X) : awE p sc (.Call (.Name f apos) args [] pos) loc H Q X := by
  obtain ⟨d, h1, h2⟩ := Option.bind_eq_some_iff.mp hn
  cases d <;> first | (cases h2; done) | skip
  rename_i n'
  unfold notDict at h2
  dsimp only at h2
  by_cases hd : n' = "dict"
  · rw [if_pos hd] at h2; cases h2
  · rw [if_neg hd] at h2; cases h2
    refine ⟨hc, .ty n, h1, rfl, ?_⟩
    simp only [if_neg hd]
    exact h
theorem go_CallD {f : Str} {args : List Expr} (hc : args.all plainE = true) (hn : nmD p sc loc f = some (.ty "dict")) (h : awEs p sc args loc H (fun ds H₂ => dictW (ds.map (view H₂)) H₂ Q) X) : awE p sc (.Call (.Name f apos) args [] pos) loc H Q X := ⟨hc, .ty "dict", hn, rfl, h⟩
theorem go_Attr {o : Expr} {name : Str} (hc : plainBase o = true) (h : awE p sc o loc H (fun a H₁ => ∃ d, attrD p H₁ a name = some d ∧ Q d H₁) X) : awE p sc (.Attribute o name pos) loc H Q X := ⟨hc, h⟩
theorem go_Slice {v : Expr} {lo hi : Option Expr} (h : awE p sc v loc H (fun a H₁ => awO p sc lo loc H₁ (fun l H₂ => awO p sc hi loc H₂ (fun h H₃ => ∃ d, sliceD (view H₃ a) l h = some d ∧ Q d H₃) X) X) X) : awE p sc (.Subscript v (.Slice lo hi none apos) pos) loc H Q X := h
theorem go_Sub {v i : Expr} (hs : notSlice i = true) (h : awE p sc v loc H (fun a H₁ => awE p sc i loc H₁ (fun b H₂ => ∃ d, idxD (view H₂ a) b = some d ∧ Q d H₂) X) X) : awE p sc (.Subscript v i pos) loc H Q X := by
  cases i <;> first | exact h | cases hs
theorem go_List {es : List Expr} (hc : decide (es.length ≤ 1000) = true) (hm : p.mu pos = false) (h : awEs p sc es loc H (fun ds H₁ => Q (.lst ds) H₁) X) : awE p sc (.List es pos) loc H Q X := by
  refine ⟨hc, ?_⟩
  rw [hm]
  exact h
theorem go_ListM {es : List Expr} (hc : decide (es.length ≤ 1000) = true) (hm : p.mu pos = true) (h : awEs p sc es loc H (fun ds H₁ => Q (.mref H₁.length) (H₁ ++ [.lst ds])) X) : awE p sc (.List es pos) loc H Q X := by
  refine ⟨hc, ?_⟩
  rw [hm]
  exact h
theorem go_Tuple {es : List Expr} {n : Nat} (hc : decide (es.length ≤ 1000) = true) (h : awEs p sc es loc H (fun ds H₁ => Q (.tup ds) H₁) X) : awE p sc (.Tuple es n pos) loc H Q X := ⟨hc, h⟩
theorem go_nil {Q : List D → Hp → Prop} (q : Q [] H) : awEs p sc [] loc H Q X := q
theorem go_cons {e : Expr} {es : List Expr} {Q : List D → Hp → Prop} (hp : plainE e = true) (h : awE p sc e loc H (fun d H₁ => awEs p sc es loc H₁ (fun ds H₂ => Q (d :: ds) H₂) X) X) : awEs p sc (e :: es) loc H Q X := ⟨hp, h⟩
theorem go_Onone {Q : Option D → Hp → Prop} (q : Q none H) : awO p sc none loc H Q X := q
theorem go_Osome {e : Expr} {Q : Option D → Hp → Prop} (q : awE p sc e loc H (fun d H₁ => Q (some d) H₁) X) : awO p sc (some e) loc H Q X := q
end

section
variable {p : Pg} {sc : Str → Option NK} {loc : Loc} {H : Hp} {Q : Bool → Hp → Prop} {X : Value → Hp → Prop} {pos apos : Pos} {W : (D → Hp → Prop) → Prop}
theorem go_TNot {x : Expr} (h : awT p sc x (fun K => awE p sc x loc H K X) loc H (fun b H₁ => Q (!b) H₁) X) : awT p sc (.UnaryOp .Not x pos) W loc H Q X := h
theorem go_TBool {op : BoolOp} {es : List Expr} (h : awB p sc op es loc H Q X) : awT p sc (.BoolOp op es pos) W loc H Q X := h
theorem go_TName {x : Str} (h : W (fun d H₁ => match d with | .bool b => Q b H₁ | _ => False)) : awT p sc (.Name x pos) W loc H Q X := h
theorem go_TCmp {l : Expr} {ops : List CmpOp} {rs : List Expr} (h : W (fun d H₁ => match d with | .bool b => Q b H₁ | _ => False)) : awT p sc (.Compare l ops rs pos) W loc H Q X := h
theorem go_TCall {f : Expr} {as : List Expr} {ks : List Keyword} (h : W (fun d H₁ => match d with | .bool b => Q b H₁ | _ => False)) : awT p sc (.Call f as ks pos) W loc H Q X := h
theorem go_TSub {v i : Expr} (h : W (fun d H₁ => match d with | .bool b => Q b H₁ | _ => False)) : awT p sc (.Subscript v i pos) W loc H Q X := h
theorem go_Bnil {op : BoolOp} (q : Q (op == .And) H) : awB p sc op [] loc H Q X := q
theorem go_Bcons {op : BoolOp} {e : Expr} {es : List Expr} (h : awT p sc e (fun K => awE p sc e loc H K X) loc H (fun b H₁ => if b = (op == .Or) then Q b H₁ else awB p sc op es loc H₁ Q X) X) : awB p sc op (e :: es) loc H Q X := h
end

section
variable {p : Pg} {nm : List (Str × NameKind)} {loc : Loc} {H : Hp} {Q : Fl → Loc → Hp → Prop} {X : Value → Loc → Hp → Prop} {pos apos : Pos}
theorem go_Ret {e : Expr} (h : awE p (kcOf nm) e loc H (fun d H₁ => Q (.ret d) loc H₁) (fun c H₁ => X c loc H₁)) : awS p nm (.Return (some e) pos) loc H Q X := h
theorem go_Ret0 (h : Q (.ret .none) loc H) : awS p nm (.Return none pos) loc H Q X := h
theorem go_Expr {e : Expr} (hc : notComp e = true) (h : awE p (kcOf nm) e loc H (fun _ H₁ => Q .next loc H₁) (fun c H₁ => X c loc H₁)) : awS p nm (.Expr e pos) loc H Q X := ⟨hc, h⟩
theorem go_AName {x : Str} {e : Expr} (hc : storeOk nm x = true) (h : awE p (kcOf nm) e loc H (fun d H₁ => Q .next (setL x d loc) H₁) (fun c H₁ => X c loc H₁)) : awS p nm (.Assign [.Name x apos] e pos) loc H Q X := ⟨hc, h⟩
theorem go_AAttr {o e : Expr} {name : Str} (h : awE p (kcOf nm) e loc H (fun d H₁ => awE p (kcOf nm) o loc H₁ (fun a H₂ => match a with
      | .inst C i => p.sfd C name = true ∧ ∃ fs, H₂[i]? = some (.dict fs) ∧ fs.length ≤ 1000 ∧ Q .next loc (H₂.set i (.dict (setL name d fs)))
      | _ => False) (fun c H₁ => X c loc H₁)) (fun c H₁ => X c loc H₁)) : awS p nm (.Assign [.Attribute o name apos] e pos) loc H Q X := h
theorem go_ASub {o i e : Expr} (hc : notSlice i = true) (h : awE p (kcOf nm) e loc H (fun d H₁ => awE p (kcOf nm) o loc H₁ (fun a H₂ => awE p (kcOf nm) i loc H₂ (fun k H₃ => match a, k with
      | .mref j, .int k => ∃ l, H₃[j]? = some (.lst l) ∧ 0 ≤ k ∧ k.toNat < l.length ∧ Q .next loc (H₃.set j (.lst (l.set k.toNat d)))
      | _, _ => False) (fun c H₁ => X c loc H₁)) (fun c H₁ => X c loc H₁)) (fun c H₁ => X c loc H₁)) : awS p nm (.Assign [.Subscript o i apos] e pos) loc H Q X := ⟨hc, h⟩
theorem go_If {t : Expr} {b e : List Stmt} (h : awT p (kcOf nm) t (fun K => awE p (kcOf nm) t loc H K fun c H₁ => X c loc H₁) loc H (fun c H₁ => if c then awSs p nm b loc H₁ Q X else awSs p nm e loc H₁ Q X) (fun c H₁ => X c loc H₁)) : awS p nm (.If t b e pos) loc H Q X := h
theorem go_For {t it : Expr} {body : List Stmt} (hc : (plainE it && tgtOk nm t) = true) (h : awE p (kcOf nm) it loc H (fun a H₁ => ∃ items, itemsD (view H₁ a) = some items ∧
      forW (tgtD t) (fun loc₁ H₂ K => awSs p nm body loc₁ H₂ K X) (chkD H₁ a) items loc H₁ Q) (fun c H₁ => X c loc H₁)) : awS p nm (.For t it body [] pos) loc H Q X := ⟨hc, h⟩
theorem go_Raise {x m : Str} {n : Nat} {c : Value} {cp pc : Pos} (hc : excD p (kcOf nm) x = some c) (h : X c loc H) : awS p nm (.Raise (some (.Call (.Name x apos) [.Constant (.str m) n cp] [] pc)) none pos) loc H Q X := ⟨_, _, _, _, _, _, c, rfl, rfl, hc, h⟩
theorem go_Try {body : List Stmt} {hs : List ExceptHandler} (hc : hs.isEmpty = false) (h : awSs p nm body loc H Q (fun c loc₁ H₁ => awH p nm c hs loc₁ H₁ Q X)) : awS p nm (.Try body hs [] [] pos) loc H Q X := ⟨hc, h⟩
theorem go_Snil (q : Q .next loc H) : awSs p nm [] loc H Q X := q
theorem go_Scons {st : Stmt} {r : List Stmt} (h : awS p nm st loc H (fun f loc₁ H₁ => match f with | .next => awSs p nm r loc₁ H₁ Q X | f => Q f loc₁ H₁) X) : awSs p nm (st :: r) loc H Q X := h
end

theorem it {c : Prop} [Decidable c] {P R : Prop} (h : c) (q : P) : if c then P else R := by rw [if_pos h]; exact q
theorem ie {c : Prop} [Decidable c] {P R : Prop} (h : ¬ c) (q : R) : if c then P else R := by rw [if_neg h]; exact q
theorem itB {b : Bool} {P R : Prop} (h : b = true) (q : P) : if b = true then P else R := it h q
theorem ieB {b : Bool} {P R : Prop} (h : b = false) (q : R) : if b = true then P else R := ie (by rw [h]; decide) q
theorem itN {b : Bool} {P R : Prop} (h : b = false) (q : P) : if (!b) = true then P else R := it (by rw [h]; rfl) q
theorem ieN {b : Bool} {P R : Prop} (h : b = true) (q : R) : if (!b) = true then P else R := ie (by rw [h]; decide) q
theorem itO {b : Bool} {P R : Prop} (h : b = true) (q : P) : if b = (BoolOp.Or == BoolOp.Or) then P else R := it h q
theorem ieO {b : Bool} {P R : Prop} (h : b = false) (q : R) : if b = (BoolOp.Or == BoolOp.Or) then P else R := ie (by rw [h]; decide) q
theorem itA {b : Bool} {P R : Prop} (h : b = false) (q : P) : if b = (BoolOp.And == BoolOp.Or) then P else R := it h q
theorem ieA {b : Bool} {P R : Prop} (h : b = true) (q : R) : if b = (BoolOp.And == BoolOp.Or) then P else R := ie (by rw [h]; decide) q
theorem itNO {b : Bool} {P R : Prop} (h : b = false) (q : P) : if (!b) = (BoolOp.Or == BoolOp.Or) then P else R := it (by rw [h]; rfl) q
theorem ieNO {b : Bool} {P R : Prop} (h : b = true) (q : R) : if (!b) = (BoolOp.Or == BoolOp.Or) then P else R := ie (by rw [h]; decide) q
theorem itNA {b : Bool} {P R : Prop} (h : b = true) (q : P) : if (!b) = (BoolOp.And == BoolOp.Or) then P else R := it (by rw [h]; rfl) q
theorem ieNA {b : Bool} {P R : Prop} (h : b = false) (q : R) : if (!b) = (BoolOp.And == BoolOp.Or) then P else R := ie (by rw [h]; decide) q

theorem go_Fcons {tgt : D → Loc → Option Loc} {bd : Loc → Hp → (Fl → Loc → Hp → Prop) → Prop} {chk : Hp → Prop} {d : D} {ds : List D} {loc loc₁ : Loc} {H : Hp} {Q : Fl → Loc → Hp → Prop} (h : tgt d loc = some loc₁)
    (q : bd loc₁ H (fun f loc₂ H₂ => match f with | .next | .cont => chk H₂ ∧ forW tgt bd chk ds loc₂ H₂ Q | .brk => Q .next loc₂ H₂ | .ret d => Q (.ret d) loc₂ H₂)) : forW tgt bd chk (d :: ds) loc H Q := ⟨loc₁, h, q⟩
theorem go_Fnil {tgt : D → Loc → Option Loc} {bd : Loc → Hp → (Fl → Loc → Hp → Prop) → Prop} {chk : Hp → Prop} {loc : Loc} {H : Hp} {Q : Fl → Loc → Hp → Prop} (q : Q .next loc H) : forW tgt bd chk [] loc H Q := q

noncomputable def gd {α : Type} (b : Bool) (o : Option α) : Option α := match b with
  | true => o
  | false => none
theorem gd_some {α : Type} {b : Bool} {o : Option α} {d : α} (h : gd b o = some d) : b = true ∧ o = some d := by
  cases b with
  | true => exact ⟨rfl, h⟩
  | false => cases h

noncomputable def constV : Const → Option D
  | .none => some .none
  | .bool b => some (.bool b)
  | .int i => some (.int i)
  | .str s => some (.str s)
  | _ => none
noncomputable def biTy (ds : List D) (H : Hp) : D → Option D
  | .bi id => biD id (ds.map (view H))
  | .ty n => gd (!decide (n = "dict")) (tyD n (ds.map (view H)))
  | _ => none

mutual
/-- an expression without calls of the program's: its value -/
noncomputable def evP (p : Pg) (sc : Str → Option NK) (loc : Loc) (H : Hp) : Expr → Option D
  | .Constant c _ _ => constV c
  | .Name x _ => nmD p sc loc x
  | .BinOp l op r _ => (evP p sc loc H l).bind fun a => (evP p sc loc H r).bind fun b => binD op (view H a) (view H b)
  | .Compare l [op] [r] _ => gd (plainE r) ((evP p sc loc H l).bind fun a => (evP p sc loc H r).bind fun b => (cmpD op (view H a) (view H b)).bind fun c => some (.bool c))
  | .Attribute o name _ => gd (plainBase o) ((evP p sc loc H o).bind fun a => attrD p H a name)
  | .Subscript v (.Slice lo hi none _) _ => (evP p sc loc H v).bind fun a => (evO p sc loc H lo).bind fun l => (evO p sc loc H hi).bind fun h => sliceD (view H a) l h
  | .Subscript v i _ => gd (notSlice i) ((evP p sc loc H v).bind fun a => (evP p sc loc H i).bind fun b => idxD (view H a) b)
  | .List es pos => gd (decide (es.length ≤ 1000) && !p.mu pos) ((evPs p sc loc H es).bind fun ds => some (.lst ds))
  | .Tuple es _ _ => gd (decide (es.length ≤ 1000)) ((evPs p sc loc H es).bind fun ds => some (.tup ds))
  | .Call (.Name f _) args [] _ => gd (args.all plainE) ((nmD p sc loc f).bind fun g => (evPs p sc loc H args).bind fun ds => biTy ds H g)
  | _ => none
noncomputable def evPs (p : Pg) (sc : Str → Option NK) (loc : Loc) (H : Hp) : List Expr → Option (List D)
  | [] => some []
  | e :: es => gd (plainE e) ((evP p sc loc H e).bind fun d => (evPs p sc loc H es).bind fun ds => some (d :: ds))
noncomputable def evO (p : Pg) (sc : Str → Option NK) (loc : Loc) (H : Hp) : Option Expr → Option (Option D)
  | none => some none
  | some e => (evP p sc loc H e).bind fun d => some (some d)
end

section
variable {p : Pg} {sc : Str → Option NK} {loc : Loc} {H : Hp}
noncomputable def EP (p : Pg) (sc : Str → Option NK) (loc : Loc) (H : Hp) (e : Expr) : Prop := ∀ d (Q : D → Hp → Prop) (X : Value → Hp → Prop), evP p sc loc H e = some d → Q d H → awE p sc e loc H Q X
noncomputable def EPs (p : Pg) (sc : Str → Option NK) (loc : Loc) (H : Hp) (es : List Expr) : Prop := ∀ ds (Q : List D → Hp → Prop) (X : Value → Hp → Prop), evPs p sc loc H es = some ds → Q ds H → awEs p sc es loc H Q X
noncomputable def EO (p : Pg) (sc : Str → Option NK) (loc : Loc) (H : Hp) (o : Option Expr) : Prop := ∀ d (Q : Option D → Hp → Prop) (X : Value → Hp → Prop), evO p sc loc H o = some d → Q d H → awO p sc o loc H Q X
theorem ep_no {e : Expr} (h : evP p sc loc H e = none) : EP p sc loc H e := fun d _ _ he _ => nomatch h.symm.trans he
theorem ep_Bin {l r : Expr} {op : Operator} {pos : Pos} (hl : EP p sc loc H l) (hr : EP p sc loc H r) : EP p sc loc H (.BinOp l op r pos) := fun d _ _ he q => by
  obtain ⟨a, ha, he⟩ := bindS he
  obtain ⟨b, hb, he⟩ := bindS he
  exact hl a _ _ ha (hr b _ _ hb ⟨d, he, q⟩)
theorem ep_Cmp {l : Expr} {ops : List CmpOp} {rs : List Expr} {pos : Pos} (hl : EP p sc loc H l) (hr : ∀ r ∈ rs, EP p sc loc H r) : EP p sc loc H (.Compare l ops rs pos) := by
  rcases ops with _ | ⟨op, _ | ⟨op2, ops⟩⟩
  · exact ep_no rfl
  · rcases rs with _ | ⟨r, _ | ⟨r2, rs⟩⟩
    · exact ep_no rfl
    · intro d Q X he q
      obtain ⟨hp, he⟩ := gd_some he
      obtain ⟨a, ha, he⟩ := bindS he
      obtain ⟨b, hb, he⟩ := bindS he
      obtain ⟨c, hc, he⟩ := bindS he
      cases he
      exact ⟨hp, hl a _ _ ha (hr r (.head _) b _ _ hb ⟨c, hc, q⟩)⟩
    · exact ep_no rfl
  · rcases rs with _ | ⟨r, _ | ⟨r2, rs⟩⟩ <;> exact ep_no rfl
theorem ep_Attr {o : Expr} {name : Str} {pos : Pos} (ho : EP p sc loc H o) : EP p sc loc H (.Attribute o name pos) := fun d _ _ he q => by
  obtain ⟨hp, he⟩ := gd_some he
  obtain ⟨a, ha, he⟩ := bindS he
  exact ⟨hp, ho a _ _ ha ⟨d, he, q⟩⟩
theorem ep_Idx {v i : Expr} {pos : Pos} (hs : notSlice i = true) (hv : EP p sc loc H v) (hi : EP p sc loc H i) : EP p sc loc H (.Subscript v i pos) := fun d Q X he q => by
  refine go_Sub hs ?_
  have he : gd (notSlice i) ((evP p sc loc H v).bind fun a => (evP p sc loc H i).bind fun b => idxD (view H a) b) = some d := by
    cases i with
    | Slice lo hi st sp => cases hs
    | _ => exact he
  obtain ⟨_, he⟩ := gd_some he
  obtain ⟨a, ha, he⟩ := bindS he
  obtain ⟨b, hb, he⟩ := bindS he
  exact hv a _ _ ha (hi b _ _ hb ⟨d, he, q⟩)
theorem ep_Slice {v : Expr} {lo hi : Option Expr} {sp pos : Pos} (hv : EP p sc loc H v) (h1 : EO p sc loc H lo) (h2 : EO p sc loc H hi) : EP p sc loc H (.Subscript v (.Slice lo hi none sp) pos) := fun d _ _ he q => by
  obtain ⟨a, ha, he⟩ := bindS he
  obtain ⟨l, hl, he⟩ := bindS he
  obtain ⟨u, hu, he⟩ := bindS he
  exact hv a _ _ ha (h1 l _ _ hl (h2 u _ _ hu ⟨d, he, q⟩))
theorem ep_List {es : List Expr} {pos : Pos} (h : EPs p sc loc H es) : EP p sc loc H (.List es pos) := fun d _ _ he q => by
  obtain ⟨hp, he⟩ := gd_some he
  obtain ⟨ds, hds, he⟩ := bindS he
  cases he
  obtain ⟨h1, h2⟩ := Bool.and_eq_true_iff.mp hp
  exact go_List h1 ((Bool.not_eq_true' _).mp h2) (h ds _ _ hds q)
theorem ep_Tuple {es : List Expr} {m : Nat} {pos : Pos} (h : EPs p sc loc H es) : EP p sc loc H (.Tuple es m pos) := fun d _ _ he q => by
  obtain ⟨hp, he⟩ := gd_some he
  obtain ⟨ds, hds, he⟩ := bindS he
  cases he
  exact ⟨hp, h ds _ _ hds q⟩
theorem ep_Call {f : Str} {fp pos : Pos} {args : List Expr} (h : EPs p sc loc H args) : EP p sc loc H (.Call (.Name f fp) args [] pos) := fun d _ _ he q => by
  obtain ⟨hp, he⟩ := gd_some he
  obtain ⟨g, hg, he⟩ := bindS he
  obtain ⟨ds, hds, he⟩ := bindS he
  cases g with
  | ty nn =>
    obtain ⟨hd, he⟩ := gd_some he
    refine go_CallT (n := nn) hp ?_ (h ds _ _ hds ⟨d, he, q⟩)
    rw [hg]
    show (if nn = "dict" then none else some nn) = some nn
    rw [if_neg (by simpa using hd)]
  | bi id => exact go_CallB hp hg (h ds _ _ hds ⟨d, he, q⟩)
  | _ => cases he
theorem eps_cons {e : Expr} {es : List Expr} (h1 : EP p sc loc H e) (h2 : EPs p sc loc H es) : EPs p sc loc H (e :: es) := fun ds _ _ he q => by
  obtain ⟨hp, he⟩ := gd_some he
  obtain ⟨a, ha, he⟩ := bindS he
  obtain ⟨as, has, he⟩ := bindS he
  cases he
  exact ⟨hp, h1 a _ _ ha (h2 as _ _ has q)⟩
theorem evP_all (p : Pg) (sc : Str → Option NK) (loc : Loc) (H : Hp) : ∀ n : Nat, (∀ e : Expr, sizeOf e < n → EP p sc loc H e) ∧ (∀ es : List Expr, sizeOf es < n → EPs p sc loc H es ∧ ∀ c ∈ es, EP p sc loc H c) ∧ ∀ o : Option Expr, sizeOf o < n → EO p sc loc H o := by
  intro n
  induction n with
  | zero => exact ⟨fun _ h => absurd h (Nat.not_lt_zero _), fun _ h => absurd h (Nat.not_lt_zero _), fun _ h => absurd h (Nat.not_lt_zero _)⟩
  | succ n ih =>
    obtain ⟨i1, i2, i3⟩ := ih
    refine ⟨fun e h => ?_, fun es h => ?_, fun o h => ?_⟩
    · cases e with
      | Constant c m pos => cases c <;> first | exact ep_no rfl | exact fun d _ _ he q => by cases he; exact q
      | Name x pos => exact fun d _ _ he q => ⟨d, he, q⟩
      | BinOp l op r pos => exact ep_Bin (i1 l (p41 (Expr.BinOp.sizeOf_spec ..) h)) (i1 r (p43 (Expr.BinOp.sizeOf_spec ..) h))
      | Compare l ops rs pos => exact ep_Cmp (i1 l (p41 (Expr.Compare.sizeOf_spec ..) h)) (i2 rs (p43 (Expr.Compare.sizeOf_spec ..) h)).2
      | Attribute o name pos => exact ep_Attr (i1 o (p31 (Expr.Attribute.sizeOf_spec ..) h))
      | Subscript v i pos =>
        have hv := i1 v (p31 (Expr.Subscript.sizeOf_spec ..) h)
        have hi := p32 (Expr.Subscript.sizeOf_spec ..) h
        cases i with
        | Slice lo hi' st sp =>
          cases st with
          | none => exact ep_Slice hv (i3 lo (p41 (Expr.Slice.sizeOf_spec ..) (Nat.lt_succ_of_lt hi))) (i3 hi' (p42 (Expr.Slice.sizeOf_spec ..) (Nat.lt_succ_of_lt hi)))
          | some z => exact ep_no rfl
        | _ => exact ep_Idx rfl hv (i1 _ hi)
      | List es pos => exact ep_List (i2 es (p21 (Expr.List.sizeOf_spec ..) h)).1
      | Tuple es m pos => exact ep_Tuple (i2 es (p31 (Expr.Tuple.sizeOf_spec ..) h)).1
      | Call f args kws pos =>
        cases kws with
        | nil =>
          cases f with
          | Name f fp => exact ep_Call (i2 args (p42 (Expr.Call.sizeOf_spec ..) h)).1
          | _ => exact ep_no rfl
        | cons _ _ => cases f <;> exact ep_no rfl
      | _ => exact ep_no rfl
    · cases es with
      | nil => exact ⟨fun ds _ _ he q => by cases he; exact q, fun _ h => nomatch h⟩
      | cons e es =>
        have h1 := i1 e (p21 (List.cons.sizeOf_spec ..) h)
        obtain ⟨h2, h3⟩ := i2 es (p22 (List.cons.sizeOf_spec ..) h)
        exact ⟨eps_cons h1 h2, fun c hc => by
          rcases List.mem_cons.mp hc with rfl | hc
          · exact h1
          · exact h3 c hc⟩
    · cases o with
      | none => exact fun d _ _ he q => by cases he; exact q
      | some e =>
        intro d Q X he q
        obtain ⟨a, ha, he⟩ := bindS he
        cases he
        exact i1 e (p11 (Option.some.sizeOf_spec ..) h) a (fun d H₁ => Q (some d) H₁) X ha q
end

section
variable {p : Pg} {sc : Str → Option NK} {nm : List (Str × NameKind)} {loc : Loc} {H : Hp} {pos apos : Pos}
theorem go_P {e : Expr} {d : D} {Q : D → Hp → Prop} {X : Value → Hp → Prop} (h : evP p sc loc H e = some d) (q : Q d H) : awE p sc e loc H Q X := (evP_all p sc loc H (sizeOf e + 1)).1 e (Nat.lt_succ_self _) d Q X h q
theorem go_Ps {es : List Expr} {ds : List D} {Q : List D → Hp → Prop} {X : Value → Hp → Prop} (h : evPs p sc loc H es = some ds) (q : Q ds H) : awEs p sc es loc H Q X := ((evP_all p sc loc H (sizeOf es + 1)).2.1 es (Nat.lt_succ_self _)).1 ds Q X h q
/-- x = e -/
theorem go_AP {x : Str} {e : Expr} {r : List Stmt} {d : D} {Q : Fl → Loc → Hp → Prop} {X : Value → Loc → Hp → Prop} (hc : storeOk nm x = true) (h : evP p (kcOf nm) loc H e = some d) (q : awSs p nm r (setL x d loc) H Q X) : awSs p nm (.Assign [.Name x apos] e pos :: r) loc H Q X := ⟨hc, go_P h q⟩
/-- x = f(..) -/
theorem go_AC {x f : Str} {args : List Expr} {r : List Stmt} {ds : List D} {a : Addr} {fp cp : Pos} {Q : Fl → Loc → Hp → Prop} {X : Value → Loc → Hp → Prop} (hc : (storeOk nm x && args.all plainE) = true) (hn : nmD p (kcOf nm) loc f = some (.glob a)) (ho : p.fn a = true) (h : evPs p (kcOf nm) loc H args = some ds)
    (q : p.cw a ds H (fun d H₁ => awSs p nm r (setL x d loc) H₁ Q X) (fun c H₁ => X c loc H₁)) : awSs p nm (.Assign [.Name x apos] (.Call (.Name f fp) args [] cp) pos :: r) loc H Q X :=
  ⟨(Bool.and_eq_true_iff.mp hc).1, go_CallF (Bool.and_eq_true_iff.mp hc).2 hn ho (go_Ps h q)⟩
/-- f(..) -/
theorem go_C {f : Str} {args : List Expr} {ds : List D} {a : Addr} {Q : D → Hp → Prop} {X : Value → Hp → Prop} (hc : args.all plainE = true) (hn : nmD p sc loc f = some (.glob a)) (ho : p.fn a = true) (h : evPs p sc loc H args = some ds) (q : p.cw a ds H Q X) : awE p sc (.Call (.Name f apos) args [] pos) loc H Q X :=
  go_CallF hc hn ho (go_Ps h q)
/-- return e -/
theorem go_RP {e : Expr} {r : List Stmt} {d : D} {Q : Fl → Loc → Hp → Prop} {X : Value → Loc → Hp → Prop} (h : evP p (kcOf nm) loc H e = some d) (q : Q (.ret d) loc H) : awSs p nm (.Return (some e) pos :: r) loc H Q X := go_P (Q := fun d H₁ => match Fl.ret d with | .next => awSs p nm r loc H₁ Q X | f => Q f loc H₁) h q
/-- if e: -/
theorem go_IP {l : Expr} {ops : List CmpOp} {rs : List Expr} {tp : Pos} {b el r : List Stmt} {c : Bool} {Q : Fl → Loc → Hp → Prop} {X : Value → Loc → Hp → Prop} (h : evP p (kcOf nm) loc H (.Compare l ops rs tp) = some (.bool c))
    (q : if c = true then awSs p nm b loc H (fun f loc₁ H₁ => match f with | .next => awSs p nm r loc₁ H₁ Q X | f => Q f loc₁ H₁) X else awSs p nm el loc H (fun f loc₁ H₁ => match f with | .next => awSs p nm r loc₁ H₁ Q X | f => Q f loc₁ H₁) X) : awSs p nm (.If (.Compare l ops rs tp) b el pos :: r) loc H Q X := go_P h q
/-- a test -/
theorem go_TP {l : Expr} {ops : List CmpOp} {rs : List Expr} {c : Bool} {Q : Bool → Hp → Prop} {X : Value → Hp → Prop} (h : evP p sc loc H (.Compare l ops rs pos) = some (.bool c)) (q : Q c H) : awT p sc (.Compare l ops rs pos) (fun K => awE p sc (.Compare l ops rs pos) loc H K X) loc H Q X := go_P h q
end
section
variable {p : Pg} {nm : List (Str × NameKind)} {loc : Loc} {H : Hp} {Q : Fl → Loc → Hp → Prop} {X : Value → Loc → Hp → Prop} {pos apos : Pos} {c : Value}
theorem go_H {x : Str} {b : Stmt} {suite : List Stmt} {rest : List ExceptHandler} {c' : Value} {hit : Bool} (h : excD p (kcOf nm) x = some c') (hs : p.sub c c' = some hit) (q : if hit = true then awU p nm c (b :: suite) loc H Q X else awH p nm c rest loc H Q X) :
    awH p nm c (.ExceptHandler (some (.Name x apos)) none (b :: suite) pos :: rest) loc H Q X := ⟨_, _, _, _, _, rfl, c', h, hit, hs, q⟩
theorem go_UA {x : Str} {k : Const} {n : Nat} {cp : Pos} {d : D} (h : storeOk nm x = true) (hd : constD k = some d) (q : Q .next (setL x d loc) H) : awU p nm c [.Assign [.Name x apos] (.Constant k n cp) pos] loc H Q X := ⟨.asg _ _ _ _ _ _, rfl, h, d, hd, q⟩
theorem go_UR {x m : Str} {n : Nat} {cp pc : Pos} {C : Addr} (h : excD p (kcOf nm) x = some (.ref C)) (h1 : p.raw c = true) (h2 : p.raw (.ref C) = false) (q : X (.ref C) loc H) : awU p nm c [.Raise (some (.Call (.Name x apos) [.Constant (.str m) n cp] [] pc)) none pos] loc H Q X := ⟨.rai _ _ _ _ _ _ _, rfl, C, h, h1, h2, q⟩
theorem go_UB {o name : Str} {k : Const} {n : Nat} {po cp rp : Pos} {d : D} {C : Addr} {i : Nat} {fs : List (Str × D)} (h1 : constD k = some d) (h2 : nmD p (kcOf nm) loc o = some (.inst C i)) (h3 : H[i]? = some (.dict fs)) (h4 : fs.length ≤ 1000) (h5 : p.sfd C name = true) (q : X c loc (H.set i (.dict (setL name d fs)))) :
    awU p nm c [.Assign [.Attribute (.Name o po) name apos] (.Constant k n cp) pos, .Raise none none rp] loc H Q X := ⟨.flag _ _ _ _ _ _ _ _ _, rfl, d, C, i, fs, h1, h2, h3, h4, h5, q⟩
end
section
variable {p : Pg} {sc : Str → Option NK} {loc : Loc} {H : Hp} {Q : D → Hp → Prop} {X : Value → Hp → Prop} {pos apos : Pos}
theorem go_Comp {elt iter : Expr} {x : Str} {ifs : List Expr} {scope : Scope} (hc : (plainE iter && compOk sc x scope && decide (ifs.length ≤ 1)) = true) (hm : p.mu pos = false) (h : awE p sc iter loc H (fun a H₁ => ∃ items, itemsD (view H₁ a) = some items ∧ items.length ≤ 16777216 ∧
      compW (fun d H₂ K => awB p (kcOf scope.names) .And ifs (compLoc scope x d loc) H₂ K fun _ _ => False) (fun d H₂ K => awE p (kcOf scope.names) elt (compLoc scope x d loc) H₂ K fun _ _ => False) H₁ items [] (fun ds => Q (.lst ds) H₁)) X) :
    awE p sc (.ListComp elt [⟨.Name x apos, iter, ifs, 0⟩] scope pos) loc H Q X := by
  refine ⟨hc, ?_⟩
  rw [hm]
  exact h
theorem go_CompM {elt iter : Expr} {x : Str} {ifs : List Expr} {scope : Scope} (hc : (plainE iter && compOk sc x scope && decide (ifs.length ≤ 1)) = true) (hm : p.mu pos = true) (h : awE p sc iter loc H (fun a H₁ => ∃ items, itemsD (view H₁ a) = some items ∧ items.length ≤ 16777216 ∧
      compW (fun d H₂ K => awB p (kcOf scope.names) .And ifs (compLoc scope x d loc) H₂ K fun _ _ => False) (fun d H₂ K => awE p (kcOf scope.names) elt (compLoc scope x d loc) H₂ K fun _ _ => False) H₁ items [] (fun ds => Q (.mref H₁.length) (H₁ ++ [.lst ds]))) X) :
    awE p sc (.ListComp elt [⟨.Name x apos, iter, ifs, 0⟩] scope pos) loc H Q X := by
  refine ⟨hc, ?_⟩
  rw [hm]
  exact h
end
theorem compW_map {te : D → Hp → (Bool → Hp → Prop) → Prop} {ee : D → Hp → (D → Hp → Prop) → Prop} {H : Hp} {Q : List D → Prop} (f : D → D) : ∀ {items acc : List D}, (∀ d ∈ items, ∀ a K, K true (H ++ [.lst a]) → te d (H ++ [.lst a]) K) →
    (∀ d ∈ items, ∀ a K, K (f d) (H ++ [.lst a]) → ee d (H ++ [.lst a]) K) → (∀ d ∈ items, below H.length (f d) = true) → Q (acc ++ items.map f) → compW te ee H items acc Q
  | [], acc, _, _, _, q => by rw [List.map_nil, List.append_nil] at q; exact q
  | d :: ds, acc, ht, he, hb, q => by
    refine ht d (.head _) acc _ ⟨rfl, ?_⟩
    rw [if_pos rfl]
    refine he d (.head _) acc _ ⟨rfl, hb d (.head _), ?_⟩
    refine compW_map f (fun e he' => ht e (.tail _ he')) (fun e he' => he e (.tail _ he')) (fun e he' => hb e (.tail _ he')) ?_
    rw [List.append_assoc]
    exact q

theorem ex_rfl {α : Type} {f : Option α} {P : α → Prop} {d : α} (h : f = some d) (q : P d) : ∃ d, f = some d ∧ P d := ⟨d, h, q⟩

/-- one step -/
local macro_rules | `(tactic| k_all) => `(tactic| first
  | ((with_reducible refine' go_AP ?k1 ?k2 ?_); (case k1 => exact rfl); (case k2 => exact rfl))
  | ((with_reducible refine' go_AC ?k1 ?k2 ?k3 ?k4 ?_); (case k1 => exact rfl); (case k2 => exact rfl); (case k3 => exact rfl); (case k4 => exact rfl))
  | ((with_reducible refine' go_RP ?k1 ?_); (case k1 => exact rfl))
  | ((with_reducible refine' go_IP ?k1 ?_); (case k1 => exact rfl))
  | ((with_reducible refine' go_TP ?k1 ?_); (case k1 => exact rfl))
  | ((with_reducible refine' go_C ?k1 ?k2 ?k3 ?k4 ?_); (case k1 => exact rfl); (case k2 => exact rfl); (case k3 => exact rfl); (case k4 => exact rfl))
  | ((with_reducible refine' go_P ?k1 ?_); (case k1 => exact rfl))
  | ((with_reducible refine' go_Ps ?k1 ?_); (case k1 => exact rfl))
  | with_reducible refine go_Scons ?_
  | ((with_reducible refine' go_H ?k1 ?k2 ?_); (case k1 => exact rfl); (case k2 => exact rfl))
  | ((with_reducible refine' go_UA ?k1 ?k2 ?_); (case k1 => exact rfl); (case k2 => exact rfl))
  | ((with_reducible refine' go_UR ?k1 ?k2 ?k3 ?_); (case k1 => exact rfl); (case k2 => exact rfl); (case k3 => exact rfl))
  | ((with_reducible refine' go_Comp ?k1 ?k2 ?_); (case k1 => exact rfl); (case k2 => exact rfl))
  | ((with_reducible refine' go_CompM ?k1 ?k2 ?_); (case k1 => exact rfl); (case k2 => exact rfl))
  | with_reducible refine go_Snil ?_
  | with_reducible refine go_Ret ?_
  | with_reducible refine go_Ret0 ?_
  | with_reducible refine go_AAttr ?_
  | with_reducible refine go_If ?_
  | with_reducible refine go_int ?_
  | with_reducible refine go_str ?_
  | with_reducible refine go_bool ?_
  | with_reducible refine go_none ?_
  | with_reducible refine go_BinOp ?_
  | with_reducible refine go_IfExp ?_
  | with_reducible refine go_BoolOp ?_
  | with_reducible refine go_Slice ?_
  | with_reducible refine go_nil ?_
  | with_reducible refine go_Onone ?_
  | with_reducible refine go_Osome ?_
  | with_reducible refine go_TNot ?_
  | with_reducible refine go_TBool ?_
  | with_reducible refine go_TName ?_
  | with_reducible refine go_TCmp ?_
  | with_reducible refine go_TCall ?_
  | with_reducible refine go_TSub ?_
  | with_reducible refine go_Bnil ?_
  | with_reducible refine go_Bcons ?_
  | ((with_reducible refine' go_Expr ?k1 ?_); (case k1 => exact rfl))
  | ((with_reducible refine' go_AName ?k1 ?_); (case k1 => exact rfl))
  | ((with_reducible refine' go_ASub ?k1 ?_); (case k1 => exact rfl))
  | ((with_reducible refine' go_For ?k1 ?_); (case k1 => exact rfl))
  | ((with_reducible refine' go_Raise ?k1 ?_); (case k1 => exact rfl))
  | ((with_reducible refine' go_Try ?k1 ?_); (case k1 => exact rfl))
  | ((with_reducible refine' go_Name ?k1 ?_); (case k1 => exact rfl))
  | ((with_reducible refine' go_Cmp1 ?k1 ?_); (case k1 => exact rfl))
  | ((with_reducible refine' go_Cmp2 ?k1 ?_); (case k1 => exact rfl))
  | ((with_reducible refine' go_CallM ?k1 ?_); (case k1 => exact rfl))
  | ((with_reducible refine' go_Attr ?k1 ?_); (case k1 => exact rfl))
  | ((with_reducible refine' go_Sub ?k1 ?_); (case k1 => exact rfl))
  | ((with_reducible refine' go_Tuple ?k1 ?_); (case k1 => exact rfl))
  | ((with_reducible refine' go_cons ?k1 ?_); (case k1 => exact rfl))
  | ((with_reducible refine' go_CallB ?k1 ?k2 ?_); (case k1 => exact rfl); (case k2 => exact rfl))
  | ((with_reducible refine' go_CallT ?k1 ?k2 ?_); (case k1 => exact rfl); (case k2 => exact rfl))
  | ((with_reducible refine' go_CallD ?k1 ?k2 ?_); (case k1 => exact rfl); (case k2 => exact rfl))
  | ((with_reducible refine' go_List ?k1 ?k2 ?_); (case k1 => exact rfl); (case k2 => exact rfl))
  | ((with_reducible refine' go_ListM ?k1 ?k2 ?_); (case k1 => exact rfl); (case k2 => exact rfl))
  | ((with_reducible refine' go_CallF ?k1 ?k2 ?k3 ?_); (case k1 => exact rfl); (case k2 => exact rfl); (case k3 => exact rfl))
  | ((with_reducible refine' itB ?k1 ?_); (case k1 => first | assumption | exact rfl))
  | ((with_reducible refine' ieB ?k1 ?_); (case k1 => first | assumption | exact rfl))
  | ((with_reducible refine' itN ?k1 ?_); (case k1 => first | assumption | exact rfl))
  | ((with_reducible refine' ieN ?k1 ?_); (case k1 => first | assumption | exact rfl))
  | ((with_reducible refine' itO ?k1 ?_); (case k1 => first | assumption | exact rfl))
  | ((with_reducible refine' ieO ?k1 ?_); (case k1 => first | assumption | exact rfl))
  | ((with_reducible refine' itA ?k1 ?_); (case k1 => first | assumption | exact rfl))
  | ((with_reducible refine' ieA ?k1 ?_); (case k1 => first | assumption | exact rfl))
  | ((with_reducible refine' itNO ?k1 ?_); (case k1 => first | assumption | exact rfl))
  | ((with_reducible refine' ieNO ?k1 ?_); (case k1 => first | assumption | exact rfl))
  | ((with_reducible refine' itNA ?k1 ?_); (case k1 => first | assumption | exact rfl))
  | ((with_reducible refine' ieNA ?k1 ?_); (case k1 => first | assumption | exact rfl))
  | ((with_reducible refine' And.intro ?k1 ?_); (case k1 => exact trivial))
  | ((with_reducible refine' ex_rfl ?k1 ?_); (case k1 => exact rfl))
  | dsimp only)

noncomputable def four (n : Int) : List D := [.int ((n.fdiv 16777216).fmod 256), .int ((n.fdiv 65536).fmod 256), .int ((n.fdiv 256).fmod 256), .int (n.fmod 256)]

theorem cw_four {w : World} {s : Shared} (B : Bs w s) (j : Nat) {n : Int} {H : Hp} {Q : D → Hp → Prop} {X : Value → Hp → Prop} (hq : Q (.lst (four n)) H) : CW (mkG w s) (j + 1) 80 [.int n] H Q X := by
  refine fn_cwK (B.pok j) 80 [Str.ofString "n"] (by kernel_rfl) (bind1 fun a => by kernel_rfl) rfl ?_
  conv in (bodyAt _ _) => whnf
  conv in (Scope.names _) => whnf
  repeat k_all
  exact hq

noncomputable def iL (l : List Int) : List D := l.map .int
theorem iL_len (l : List Int) : (iL l).length = l.length := by simp [iL]
theorem iL_app (a b : List Int) : iL (a ++ b) = iL a ++ iL b := by simp [iL]
theorem iL_cons (a : Int) (b : List Int) : iL (a :: b) = .int a :: iL b := rfl
theorem iL_nil : iL [] = [] := rfl
theorem iL_take (l : List Int) (n : Nat) : (iL l).take n = iL (l.take n) := by simp [iL]
theorem iL_drop (l : List Int) (n : Nat) : (iL l).drop n = iL (l.drop n) := by simp [iL]
theorem intsOf_iL : ∀ l : List Int, intsOf (iL l) = some l
  | [] => rfl
  | a :: l => by show (intsOf (iL l)).map _ = _; rw [intsOf_iL l]; rfl
theorem iL_rep (n : Nat) : (List.replicate n [D.int 0]).flatten = iL (List.replicate n 0) := by
  induction n with
  | zero => rfl
  | succ n ih => rw [List.replicate_succ, List.flatten_cons, ih, List.replicate_succ]; rfl
theorem iL_get (l : List Int) (n : Nat) : (iL l)[n]? = l[n]?.map .int := by simp [iL]

section
variable {H : Hp} {Q : D → Prop}
theorem ex_addL {x y : List D} (h : x.length + y.length ≤ 16777216) (q : Q (.lst (x ++ y))) : ∃ d, binD .Add (view H (.lst x)) (view H (.lst y)) = some d ∧ Q d := ⟨_, if_pos h, q⟩
theorem ex_rep {x : List D} {k : Int} (hs : small k = true) (h : x.length * k.toNat ≤ 16777216) (q : Q (.lst (List.replicate k.toNat x).flatten)) : ∃ d, binD .Mult (view H (.lst x)) (view H (.int k)) = some d ∧ Q d :=
  ⟨_, if_pos (by rw [hs, decide_eq_true h]; rfl), q⟩
theorem ex_mul {a b : Int} (h1 : small a = true) (h2 : small b = true) (q : Q (.int (a * b))) : ∃ d, binD .Mult (view H (.int a)) (view H (.int b)) = some d ∧ Q d :=
  ⟨_, if_pos (by rw [h1, h2]; rfl), q⟩
theorem ex_sum {l : List Int} (h : l.all tiny = true) (hl : l.length ≤ 1000) (q : Q (.int l.sum)) : ∃ d, biD "sum" ([.lst (iL l)].map (view H)) = some d ∧ Q d := by
  refine ⟨_, ?_, q⟩
  show ((intsOf (iL l)).bind fun l => if l.all tiny && decide (l.length ≤ 1000) then some (D.int l.sum) else none) = _
  rw [intsOf_iL]
  exact if_pos (by rw [h, decide_eq_true hl]; rfl)
theorem ex_idx {l : List Int} {k : Int} {v : Int} (h0 : 0 ≤ k) (h : l[k.toNat]? = some v) (q : Q (.int v)) : ∃ d, idxD (view H (.lst (iL l))) (.int k) = some d ∧ Q d :=
  ⟨.int v, by show (if 0 ≤ k then (iL l)[k.toNat]? else none) = _; rw [if_pos h0, iL_get, h]; rfl, q⟩
end

noncomputable def sealedP (l : List Int) : List Int := l ++ List.replicate (15 - (l.length : Int)).toNat 0 ++ [l.sum.fmod 256]

theorem small_of {x : Int} (h : x.natAbs < 1000000) : small x = true := by unfold small; rw [decide_eq_true_eq]; omega


section
variable {H : Hp} {Q : D → Prop}
theorem ex_list {d : D} {x : List D} (hd : view H d = .lst x) (q : Q (.lst x)) : ∃ e, tyD "list" (List.map (view H) [d]) = some e ∧ Q e := ⟨_, by rw [List.map_cons, hd]; rfl, q⟩
theorem ex_len {d : D} {x : List D} (hd : view H d = .lst x) (q : Q (.int x.length)) : ∃ e, biD "len" (List.map (view H) [d]) = some e ∧ Q e := ⟨_, by rw [List.map_cons, hd]; rfl, q⟩
theorem ex_sumV {d : D} {l : List Int} (hd : view H d = .lst (iL l)) (h : l.all tiny = true) (hl : l.length ≤ 1000) (q : Q (.int l.sum)) : ∃ e, biD "sum" (List.map (view H) [d]) = some e ∧ Q e := by
  rw [List.map_cons, hd]; exact ex_sum h hl q
theorem ex_cut {d : D} {x : List D} {l h : Option D} {i j : Option Int} (hd : view H d = .lst x) (hl : partD l = some i) (hh : partD h = some j) (q : Q (.lst (cutL x i j))) : ∃ e, sliceD (view H d) l h = some e ∧ Q e :=
  ⟨_, by rw [hd]; unfold sliceD; rw [hl, hh], q⟩
theorem ex_idxV {d : D} {l : List Int} {k : Int} {v : Int} (hd : view H d = .lst (iL l)) (h0 : 0 ≤ k) (h : l[k.toNat]? = some v) (q : Q (.int v)) : ∃ e, idxD (view H d) (.int k) = some e ∧ Q e := by
  rw [hd]; exact ex_idx (H := H) h0 h q
end

theorem cw_sealed {w : World} {s : Shared} (B : Bs w s) (j : Nat) {d : D} {l : List Int} {H : Hp} {Q : D → Hp → Prop} {X : Value → Hp → Prop} (hd : view H d = .lst (iL l)) (h1 : l.all tiny = true) (h2 : l.length ≤ 100) (hq : Q (.lst (iL (sealedP l))) H) : CW (mkG w s) (j + 1) 94 [d] H Q X := by
  refine fn_cwK (B.pok j) 94 [Str.ofString "body"] (by kernel_rfl) (bind1 fun a => by kernel_rfl) rfl ?_
  conv in (bodyAt _ _) => whnf
  conv in (Scope.names _) => whnf
  repeat k_all
  refine ex_list hd ?_
  repeat k_all
  refine ex_len hd ?_
  repeat k_all
  rw [iL_len]
  refine ex_rep (small_of (by omega)) (by simp; omega) ?_
  refine ex_addL (by rw [iL_rep, iL_len, iL_len, List.length_replicate]; omega) ?_
  repeat k_all
  refine ex_sumV hd h1 (by omega) ?_
  repeat k_all
  refine ex_addL (by rw [iL_rep, List.length_append, iL_len, iL_len, List.length_replicate]; simp; omega) ?_
  rw [iL_rep]
  show Q (.lst (iL l ++ iL (List.replicate (15 - (l.length : Int)).toNat 0) ++ iL [l.sum.fmod 256])) H
  rw [← iL_app, ← iL_app]
  exact hq

noncomputable def bytesOk (l : List Int) : Bool := l.all fun x => decide (0 ≤ x ∧ x ≤ 255)
noncomputable def sealP (l : List Int) : Bool := decide (l.length = 16) && bytesOk l && decide (l[15]? = some ((l.take 15).sum.fmod 256))

theorem tiny_of_bytes {l : List Int} (h : bytesOk l = true) : l.all tiny = true := by
  rw [List.all_eq_true]
  intro x hx
  have := List.all_eq_true.mp h x hx
  simp only [decide_eq_true_eq] at this
  unfold tiny
  rw [decide_eq_true_eq]
  omega

theorem eqD_int (a b : Int) : eqD (.int a) (.int b) = some (a == b) := rfl
theorem neD_int (a b : Int) : cmpD .NotEq (.int a) (.int b) = some (!(a == b)) := rfl


theorem forW_rule {tgt : D → Loc → Option Loc} {bd : Loc → Hp → (Fl → Loc → Hp → Prop) → Prop} {chk : Hp → Prop} {Q : Fl → Loc → Hp → Prop} {items : List D} (I : Nat → Loc → Hp → Prop)
    (step : ∀ i d loc H (K : Fl → Loc → Hp → Prop), items[i]? = some d → I i loc H → (∀ loc₂ H₂, chk H₂ → I (i + 1) loc₂ H₂ → K .next loc₂ H₂) → (∀ loc₂ H₂, chk H₂ → I (i + 1) loc₂ H₂ → K .cont loc₂ H₂) →
      (∀ loc₂ H₂, Q .next loc₂ H₂ → K .brk loc₂ H₂) → (∀ e loc₂ H₂, Q (.ret e) loc₂ H₂ → K (.ret e) loc₂ H₂) → ∃ loc₁, tgt d loc = some loc₁ ∧ bd loc₁ H K)
    (done : ∀ loc H, I items.length loc H → Q .next loc H) {loc : Loc} {H : Hp} (h0 : I 0 loc H) : forW tgt bd chk items loc H Q := by
  have gen : ∀ (r : List D) (i : Nat) (loc : Loc) (H : Hp), items.drop i = r → i ≤ items.length → I i loc H → forW tgt bd chk r loc H Q := by
    intro r
    induction r with
    | nil =>
      intro i loc H hr hi h
      have : items.length ≤ i := List.drop_eq_nil_iff.mp hr
      have hi' : i = items.length := by omega
      subst hi'
      exact done loc H h
    | cons d r ih =>
      intro i loc H hr hi h
      have hlt : i < items.length := by
        rcases Nat.lt_or_ge i items.length with q | q
        · exact q
        · rw [List.drop_eq_nil_of_le q] at hr; cases hr
      rw [List.drop_eq_getElem_cons hlt] at hr
      injection hr with h1 h2
      have hd : items[i]? = some d := by rw [List.getElem?_eq_getElem hlt, h1]
      obtain ⟨loc₁, e1, e2⟩ := step i d loc H (fun f loc₂ H₂ => match f with
        | .next | .cont => chk H₂ ∧ forW tgt bd chk r loc₂ H₂ Q
        | .brk => Q .next loc₂ H₂
        | .ret d => Q (.ret d) loc₂ H₂) hd h (fun loc₂ H₂ c q => ⟨c, ih (i + 1) loc₂ H₂ h2 hlt q⟩) (fun loc₂ H₂ c q => ⟨c, ih (i + 1) loc₂ H₂ h2 hlt q⟩) (fun _ _ q => q) (fun _ _ _ q => q)
      exact ⟨loc₁, e1, e2⟩
  exact gen items 0 loc H rfl (Nat.zero_le _) h0

theorem iL_at {l : List Int} {i : Nat} {d : D} (h : (iL l)[i]? = some d) : ∃ v, d = .int v ∧ l[i]? = some v := by
  rw [iL_get] at h
  cases hq : l[i]? with
  | none => rw [hq] at h; cases h
  | some v => rw [hq] at h; cases h; exact ⟨v, rfl, rfl⟩
theorem take_succ {l : List Int} {i : Nat} {v : Int} (h : l[i]? = some v) : l.take (i + 1) = l.take i ++ [v] := by
  rw [List.take_add_one, h]; rfl
theorem bytesOk_app (a b : List Int) : bytesOk (a ++ b) = (bytesOk a && bytesOk b) := by unfold bytesOk; rw [List.all_append]
theorem bytesOk_take {l : List Int} {n : Nat} (h : bytesOk l = true) : bytesOk (l.take n) = true := by
  unfold bytesOk at h ⊢
  rw [List.all_eq_true] at h ⊢
  exact fun x hx => h x (List.mem_of_mem_take hx)
theorem bytesOk_drop {l : List Int} {n : Nat} (h : bytesOk l = true) : bytesOk (l.drop n) = true := by
  unfold bytesOk at h ⊢
  rw [List.all_eq_true] at h ⊢
  exact fun x hx => h x (List.mem_of_mem_drop hx)
theorem bytesOk_false {l : List Int} {i : Nat} {v : Int} (h : l[i]? = some v) (hv : v < 0 ∨ 255 < v) : bytesOk l = false := by
  rw [Bool.eq_false_iff]
  intro q
  have := List.all_eq_true.mp q v (List.mem_of_getElem? h)
  simp only [decide_eq_true_eq] at this
  omega

theorem cw_seal_holds {w : World} {s : Shared} (B : Bs w s) (j : Nat) {l : List Int} {H : Hp} {Q : D → Hp → Prop} {X : Value → Hp → Prop} (hq : Q (.bool (sealP l)) H) : CW (mkG w s) (j + 1) 101 [.lst (iL l)] H Q X := by
  refine fn_cwK (B.pok j) 101 [Str.ofString "block"] (by kernel_rfl) (bind1 fun a => by kernel_rfl) rfl ?_
  conv in (bodyAt _ _) => whnf
  conv in (Scope.names _) => whnf
  repeat k_all
  by_cases hl : l.length = 16
  · have e1 : (!(PyData.int ((iL l).length : Int)).eqv (PyData.int 16)) = false := by rw [iL_len, hl]; rfl
    refine ie (by rw [e1]; decide) ?_
    repeat k_all
    refine forW_rule (fun i loc H' => (loc = [(Str.ofString "block", .lst (iL l))] ∨ ∃ d, loc = [(Str.ofString "block", .lst (iL l)), (Str.ofString "x", d)]) ∧ H' = H ∧ bytesOk (l.take i) = true) ?_ ?_ ⟨.inl rfl, rfl, rfl⟩
    · intro i d loc H' K hi hI kn kc kb kr
      obtain ⟨hloc, rfl, hb⟩ := hI
      obtain ⟨v, rfl, hv⟩ := iL_at hi
      refine ⟨[(Str.ofString "block", .lst (iL l)), (Str.ofString "x", .int v)], ?_, ?_⟩
      · rcases hloc with rfl | ⟨d, rfl⟩ <;> rfl
      by_cases c1 : v < 0
      · have f1 := decide_eq_true c1
        repeat k_all
        refine kr _ _ _ ?_
        have : sealP l = false := by unfold sealP; rw [bytesOk_false hv (.inl c1), Bool.and_false, Bool.false_and]
        rw [this] at hq
        exact hq
      · have f1 := decide_eq_false c1
        by_cases c2 : 255 < v
        · have f2 := decide_eq_true c2
          repeat k_all
          refine kr _ _ _ ?_
          have : sealP l = false := by unfold sealP; rw [bytesOk_false hv (.inr c2), Bool.and_false, Bool.false_and]
          rw [this] at hq
          exact hq
        · have f2 := decide_eq_false c2
          repeat k_all
          refine kn _ _ trivial ⟨.inr ⟨_, rfl⟩, rfl, ?_⟩
          rw [take_succ hv, bytesOk_app, hb]
          unfold bytesOk
          simp
          omega
    · intro loc H' hI
      obtain ⟨hloc, rfl, hb⟩ := hI
      rw [iL_len, hl, ← hl, List.take_length] at hb
      have h15 : ∃ v, l[15]? = some v := ⟨l[15], List.getElem?_eq_getElem (by omega)⟩
      obtain ⟨v, hv⟩ := h15
      have fin : Q (.bool (v == (l.take 15).sum.fmod 256)) H' := by
        have : sealP l = (v == (l.take 15).sum.fmod 256) := by
          unfold sealP
          rw [hb, decide_eq_true hl, hv]
          by_cases z : v = (l.take 15).sum.fmod 256 <;> simp [z]
        rw [← this]; exact hq
      rcases hloc with rfl | ⟨d, rfl⟩
      · repeat k_all
        refine ex_idx (by decide) hv ?_
        repeat k_all
        rw [show cutL (iL l) none (some 15) = iL (l.take 15) from iL_take l 15]
        refine ex_sum ?_ (by simp; omega) ?_
        · exact tiny_of_bytes (bytesOk_take hb)
        repeat k_all
        exact fin
      · repeat k_all
        refine ex_idx (by decide) hv ?_
        repeat k_all
        rw [show cutL (iL l) none (some 15) = iL (l.take 15) from iL_take l 15]
        refine ex_sum ?_ (by simp; omega) ?_
        · exact tiny_of_bytes (bytesOk_take hb)
        repeat k_all
        exact fin
  · have e1 : (!(PyData.int ((iL l).length : Int)).eqv (PyData.int 16)) = true := by
      rw [iL_len]
      show (!((l.length : Int) == 16)) = true
      simp
      omega
    refine it e1 ?_
    repeat k_all
    have : sealP l = false := by unfold sealP; rw [decide_eq_false hl]; rfl
    rw [this] at hq
    exact hq

noncomputable def fourB (n : Int) : List Int := [(n.fdiv 16777216).fmod 256, (n.fdiv 65536).fmod 256, (n.fdiv 256).fmod 256, n.fmod 256]
theorem four_eq (n : Int) : four n = iL (fourB n) := rfl
theorem fmod_byte (n : Int) : 0 ≤ n.fmod 256 ∧ n.fmod 256 ≤ 255 := by
  rw [Int.fmod_eq_emod_of_nonneg _ (by decide)]
  omega
theorem fourB_bytes (n : Int) : bytesOk (fourB n) = true := by
  unfold bytesOk fourB
  simp only [List.all_cons, List.all_nil, Bool.and_true, Bool.and_eq_true, decide_eq_true_eq]
  exact ⟨fmod_byte _, fmod_byte _, fmod_byte _, fmod_byte _⟩

noncomputable def flagOf (u : Bool) : Int := if u then 1 else 0
noncomputable def slotBody (u : Bool) (k v : Int) : List Int := flagOf u :: fourB k ++ fourB v
theorem slotBody_tiny (u : Bool) (k v : Int) : (slotBody u k v).all tiny = true := by
  refine tiny_of_bytes ?_
  unfold slotBody
  rw [List.cons_append, show flagOf u :: (fourB k ++ fourB v) = [flagOf u] ++ (fourB k ++ fourB v) from rfl, bytesOk_app, bytesOk_app, fourB_bytes, fourB_bytes]
  cases u <;> rfl

theorem cw_encode_slot {w : World} {s : Shared} (B : Bs w s) (j : Nat) {u : Bool} {k v : Int} {H : Hp} {Q : D → Hp → Prop} {X : Value → Hp → Prop} (hq : Q (.lst (iL (sealedP (slotBody u k v)))) H) : CW (mkG w s) (j + 2) 108 [.bool u, .int k, .int v] H Q X := by
  refine fn_cwK (B.pok (j + 1)) 108 [Str.ofString "used", Str.ofString "key", Str.ofString "value"] (by kernel_rfl) (bind3 fun a b c => by kernel_rfl) rfl ?_
  conv in (bodyAt _ _) => whnf
  conv in (Scope.names _) => whnf
  repeat k_all
  cases u with
  | true =>
    repeat k_all
    refine cw_four B j ?_
    repeat k_all
    refine cw_four B j ?_
    repeat k_all
    exact cw_sealed (l := slotBody true k v) B j rfl (slotBody_tiny _ _ _) (by simp [slotBody, fourB]) hq
  | false =>
    repeat k_all
    refine cw_four B j ?_
    repeat k_all
    refine cw_four B j ?_
    repeat k_all
    exact cw_sealed (l := slotBody false k v) B j rfl (slotBody_tiny _ _ _) (by simp [slotBody, fourB]) hq

theorem cw_encode_header {w : World} {s : Shared} (B : Bs w s) (j : Nat) {d : D} {l : List Int} {H : Hp} {Q : D → Hp → Prop} {X : Value → Hp → Prop} (hd : view H d = .lst (iL l)) (h1 : l.all tiny = true) (h2 : l.length ≤ 90) (hq : Q (.lst (iL (sealedP ((l.length : Int) :: l)))) H) : CW (mkG w s) (j + 2) 122 [d] H Q X := by
  refine fn_cwK (B.pok (j + 1)) 122 [Str.ofString "targets"] (by kernel_rfl) (bind1 fun a => by kernel_rfl) rfl ?_
  conv in (bodyAt _ _) => whnf
  conv in (Scope.names _) => whnf
  repeat k_all
  refine ex_len hd ?_
  repeat k_all
  refine ex_list hd ?_
  rw [iL_len]
  refine ex_addL (by rw [iL_len]; simp; omega) ?_
  repeat k_all
  refine cw_sealed (l := (l.length : Int) :: l) B j rfl ?_ (by simp; omega) hq
  rw [List.all_cons, h1, Bool.and_true]
  unfold tiny
  rw [decide_eq_true_eq]
  omega

noncomputable def num4 : List Int → Int
  | [a, b, c, d] => ((a * 256 + b) * 256 + c) * 256 + d
  | _ => 0

theorem cw_from_four {w : World} {s : Shared} (B : Bs w s) (j : Nat) {a b c d : Int} {H : Hp} {Q : D → Hp → Prop} {X : Value → Hp → Prop} (hb : bytesOk [a, b, c, d] = true) (hq : Q (.int (num4 [a, b, c, d])) H) : CW (mkG w s) (j + 1) 87 [.lst (iL [a, b, c, d])] H Q X := by
  unfold bytesOk at hb
  simp only [List.all_cons, List.all_nil, Bool.and_true, Bool.and_eq_true, decide_eq_true_eq] at hb
  refine fn_cwK (B.pok j) 87 [Str.ofString "b"] (by kernel_rfl) (bind1 fun a => by kernel_rfl) rfl ?_
  conv in (bodyAt _ _) => whnf
  conv in (Scope.names _) => whnf
  repeat k_all
  refine ex_mul (small_of (by omega)) rfl ?_
  repeat k_all
  refine ex_mul (small_of (by omega)) rfl ?_
  repeat k_all
  refine ex_mul (by unfold small; rw [decide_eq_true_eq]; omega) rfl ?_
  repeat k_all
  exact hq

/-- all zeros -/
noncomputable def zeros (l : List Int) : Bool := l.all (· == 0)
noncomputable def decodeSlot (l : List Int) : Option (Bool × Int × Int) :=
  if sealP l && (l[0]? == some 0 || l[0]? == some 1) && zeros ((l.take 15).drop 9) && (l[0]? == some 1 || zeros ((l.take 9).drop 1)) then some (l[0]? == some 1, num4 ((l.take 5).drop 1), num4 ((l.take 9).drop 5)) else none

theorem len16 {l : List Int} (h : l.length = 16) : ∃ a0 a1 a2 a3 a4 a5 a6 a7 a8 a9 a10 a11 a12 a13 a14 a15, l = [a0, a1, a2, a3, a4, a5, a6, a7, a8, a9, a10, a11, a12, a13, a14, a15] := by
  obtain ⟨a0, l, rfl, h1⟩ := len_succ h
  obtain ⟨a1, l, rfl, h2⟩ := len_succ h1
  obtain ⟨a2, l, rfl, h3⟩ := len_succ h2
  obtain ⟨a3, l, rfl, h4⟩ := len_succ h3
  obtain ⟨a4, l, rfl, h5⟩ := len_succ h4
  obtain ⟨a5, l, rfl, h6⟩ := len_succ h5
  obtain ⟨a6, l, rfl, h7⟩ := len_succ h6
  obtain ⟨a7, l, rfl, h8⟩ := len_succ h7
  obtain ⟨a8, l, rfl, h9⟩ := len_succ h8
  obtain ⟨a9, l, rfl, h10⟩ := len_succ h9
  obtain ⟨a10, l, rfl, h11⟩ := len_succ h10
  obtain ⟨a11, l, rfl, h12⟩ := len_succ h11
  obtain ⟨a12, l, rfl, h13⟩ := len_succ h12
  obtain ⟨a13, l, rfl, h14⟩ := len_succ h13
  obtain ⟨a14, l, rfl, h15⟩ := len_succ h14
  obtain ⟨a15, l, rfl, h16⟩ := len_succ h15
  obtain rfl := List.eq_nil_of_length_eq_zero h16
  exact ⟨_, _, _, _, _, _, _, _, _, _, _, _, _, _, _, _, rfl⟩

theorem decodeSlot_eq {a0 a1 a2 a3 a4 a5 a6 a7 a8 a9 a10 a11 a12 a13 a14 a15 : Int} (hs : sealP [a0, a1, a2, a3, a4, a5, a6, a7, a8, a9, a10, a11, a12, a13, a14, a15] = true) :
    decodeSlot [a0, a1, a2, a3, a4, a5, a6, a7, a8, a9, a10, a11, a12, a13, a14, a15] = if (a0 == 0 || a0 == 1) && zeros [a9, a10, a11, a12, a13, a14] && (a0 == 1 || zeros [a1, a2, a3, a4, a5, a6, a7, a8]) then some (a0 == 1, num4 [a1, a2, a3, a4], num4 [a5, a6, a7, a8]) else none := by
  unfold decodeSlot
  rw [hs]
  rfl

theorem bytes8 {a1 a2 a3 a4 a5 a6 a7 a8 : Int} {x y : List Int} (h : bytesOk (x ++ ([a1, a2, a3, a4] ++ [a5, a6, a7, a8]) ++ y) = true) : bytesOk [a1, a2, a3, a4] = true ∧ bytesOk [a5, a6, a7, a8] = true := by
  rw [bytesOk_app, bytesOk_app, bytesOk_app] at h
  simp only [Bool.and_eq_true] at h
  exact h.1.2

/-- a loop that refuses what is not zero -/
theorem zero_loop {tgt : D → Loc → Option Loc} {bd : Loc → Hp → (Fl → Loc → Hp → Prop) → Prop} {chk : Hp → Prop} {Q : Fl → Loc → Hp → Prop} {H : Hp} {z : List Int} {loc : Loc} (nx : Int → Loc) (hz : 0 < z.length) (hc : chk H) (h0 : ∀ v, tgt (.int v) loc = some (nx v)) (h1 : ∀ u v, tgt (.int v) (nx u) = some (nx v))
    (good : ∀ K, K .next (nx 0) H → bd (nx 0) H K) (bad : ∀ v K, (v == 0) = false → zeros z = false → bd (nx v) H K) (done : zeros z = true → ∀ v, Q .next (nx v) H) : forW tgt bd chk (iL z) loc H Q := by
  refine forW_rule (fun i loc' H' => ((i = 0 ∧ loc' = loc) ∨ (0 < i ∧ ∃ u, loc' = nx u)) ∧ H' = H ∧ zeros (z.take i) = true) ?_ ?_ ⟨.inl ⟨rfl, rfl⟩, rfl, rfl⟩
  · intro i d loc' H' K hi hh kn kc kb kr
    obtain ⟨g1, rfl, h2⟩ := hh
    obtain ⟨v, rfl, hv⟩ := iL_at hi
    refine ⟨nx v, ?_, ?_⟩
    · rcases g1 with ⟨_, rfl⟩ | ⟨_, u, rfl⟩
      · exact h0 v
      · exact h1 u v
    by_cases c : v = 0
    · subst c
      refine good _ (kn _ _ hc ⟨.inr ⟨Nat.succ_pos _, _, rfl⟩, rfl, ?_⟩)
      unfold zeros at h2 ⊢
      rw [take_succ hv, List.all_append, h2]; rfl
    · refine bad v _ (beq_eq_false_iff_ne.mpr c) ?_
      rw [Bool.eq_false_iff]
      intro q
      have := List.all_eq_true.mp q v (List.mem_of_getElem? hv)
      exact c (beq_iff_eq.mp this)
  · intro loc' H' hh
    obtain ⟨g1, rfl, h2⟩ := hh
    rw [iL_len] at g1
    rw [iL_len, List.take_length] at h2
    rcases g1 with ⟨q, _⟩ | ⟨_, u, rfl⟩
    · omega
    · exact done h2 u

theorem cw_decode_slot {w : World} {s : Shared} (B : Bs w s) (j : Nat) {l : List Int} {H : Hp} {Q : D → Hp → Prop} {X : Value → Hp → Prop} (hq : ∀ r, decodeSlot l = some r → Q (.tup [.bool r.1, .int r.2.1, .int r.2.2]) H) (hx : decodeSlot l = none → X (.ref 44) H) :
    CW (mkG w s) (j + 2) 115 [.lst (iL l)] H Q X := by
  refine fn_cwK (B.pok (j + 1)) 115 [Str.ofString "block"] (by kernel_rfl) (bind1 fun a => by kernel_rfl) rfl ?_
  conv in (bodyAt _ _) => whnf
  conv in (Scope.names _) => whnf
  repeat k_all
  refine cw_seal_holds B j ?_
  cases hs : sealP l with
  | false =>
    repeat k_all
    refine hx ?_
    unfold decodeSlot
    rw [hs]; rfl
  | true =>
    repeat k_all
    have hs' := hs
    unfold sealP at hs'
    simp only [Bool.and_eq_true, decide_eq_true_eq] at hs'
    obtain ⟨⟨hl, hb⟩, _⟩ := hs'
    obtain ⟨a0, a1, a2, a3, a4, a5, a6, a7, a8, a9, a10, a11, a12, a13, a14, a15, rfl⟩ := len16 hl
    obtain ⟨b1, b2⟩ := bytes8 (x := [a0]) (y := [a9, a10, a11, a12, a13, a14, a15]) hb
    rw [decodeSlot_eq hs] at hq hx
    clear hs hb hl
    by_cases c0 : a0 = 0
    · have f0 : (a0 == (0 : Int)) = true := beq_iff_eq.mpr c0
      have g0 : (a0 == (1 : Int)) = false := beq_eq_false_iff_ne.mpr (by omega)
      rw [f0, g0] at hq hx
      repeat k_all
      refine zero_loop (z := [a9, a10, a11, a12, a13, a14]) (fun v => [(Str.ofString "block", .lst (iL [a0, a1, a2, a3, a4, a5, a6, a7, a8, a9, a10, a11, a12, a13, a14, a15])), (Str.ofString "x", .int v)]) (by simp) trivial (fun _ => rfl) (fun _ _ => rfl) (fun K hK => ?_) (fun v K f hz => ?_) (fun hz v => ?_)
      · repeat k_all
        exact hK
      · repeat k_all
        exact hx (by rw [hz]; rfl)
      · rw [hz] at hq hx
        repeat k_all
        refine zero_loop (z := [a1, a2, a3, a4, a5, a6, a7, a8]) (fun v => [(Str.ofString "block", .lst (iL [a0, a1, a2, a3, a4, a5, a6, a7, a8, a9, a10, a11, a12, a13, a14, a15])), (Str.ofString "x", .int v)]) (by simp) trivial (fun _ => rfl) (fun _ _ => rfl) (fun K hK => ?_) (fun v K f hz => ?_) (fun hz v => ?_)
        · repeat k_all
          exact hK
        · repeat k_all
          exact hx (by rw [hz]; rfl)
        · rw [hz] at hq
          repeat k_all
          refine cw_from_four B j b1 ?_
          repeat k_all
          refine cw_from_four B j b2 ?_
          repeat k_all
          rw [show PyData.eqv (.int a0) (.int 1) = (a0 == 1) from rfl, g0]
          exact hq _ rfl
    · have f0 : (a0 == (0 : Int)) = false := beq_eq_false_iff_ne.mpr c0
      rw [f0] at hq hx
      by_cases d0 : a0 = 1
      · have g0 : (a0 == (1 : Int)) = true := beq_iff_eq.mpr d0
        rw [g0] at hq hx
        repeat k_all
        refine zero_loop (z := [a9, a10, a11, a12, a13, a14]) (fun v => [(Str.ofString "block", .lst (iL [a0, a1, a2, a3, a4, a5, a6, a7, a8, a9, a10, a11, a12, a13, a14, a15])), (Str.ofString "x", .int v)]) (by simp) trivial (fun _ => rfl) (fun _ _ => rfl) (fun K hK => ?_) (fun v K f hz => ?_) (fun hz v => ?_)
        · repeat k_all
          exact hK
        · repeat k_all
          exact hx (by rw [hz]; rfl)
        · rw [hz] at hq
          repeat k_all
          refine cw_from_four B j b1 ?_
          repeat k_all
          refine cw_from_four B j b2 ?_
          repeat k_all
          rw [show PyData.eqv (.int a0) (.int 1) = (a0 == 1) from rfl, g0]
          exact hq _ rfl
      · have g0 : (a0 == (1 : Int)) = false := beq_eq_false_iff_ne.mpr d0
        rw [g0] at hx
        repeat k_all
        exact hx rfl

noncomputable def decodeHeader (l : List Int) : Option (List Int) := match l with
  | c :: _ => if sealP l && decide (c ≤ 14) && (((l.take 15).drop (1 + c).toNat).all (· == 0)) then some ((l.take (1 + c).toNat).drop 1) else none
  | [] => none

theorem cw_decode_header {w : World} {s : Shared} (B : Bs w s) (j : Nat) {l : List Int} {H : Hp} {Q : D → Hp → Prop} {X : Value → Hp → Prop} (hq : ∀ r, decodeHeader l = some r → Q (.lst (iL r)) H) (hx : decodeHeader l = none → X (.ref 44) H) :
    CW (mkG w s) (j + 2) 129 [.lst (iL l)] H Q X := by
  refine fn_cwK (B.pok (j + 1)) 129 [Str.ofString "block"] (by kernel_rfl) (bind1 fun a => by kernel_rfl) rfl ?_
  conv in (bodyAt _ _) => whnf
  conv in (Scope.names _) => whnf
  repeat k_all
  refine cw_seal_holds B j ?_
  cases hs : sealP l with
  | false =>
    repeat k_all
    refine hx ?_
    unfold decodeHeader
    cases l with
    | nil => rfl
    | cons c r => dsimp only; rw [hs]; rfl
  | true =>
    repeat k_all
    have hs' := hs
    unfold sealP at hs'
    simp only [Bool.and_eq_true, decide_eq_true_eq] at hs'
    obtain ⟨⟨hl, hb⟩, _⟩ := hs'
    obtain ⟨c, r, rfl⟩ : ∃ c r, l = c :: r := by cases l with | nil => cases hl | cons c r => exact ⟨c, r, rfl⟩
    have hc : 0 ≤ c := by
      have := List.all_eq_true.mp hb c (.head _)
      simp only [decide_eq_true_eq] at this
      exact this.1
    refine ex_idx (v := c) (by decide) rfl ?_
    repeat k_all
    by_cases h14 : 14 < c
    · have f := decide_eq_true h14
      repeat k_all
      refine hx ?_
      unfold decodeHeader
      dsimp only
      rw [if_neg]
      simp only [Bool.and_eq_true, decide_eq_true_eq]
      omega
    · have f := decide_eq_false h14
      repeat k_all
      refine ex_cut rfl (i := some (1 + c)) (j := some 15) ?_ rfl ?_
      · show (if 0 ≤ 1 + c then some (some (1 + c)) else none) = _
        rw [if_pos (by omega)]
      rw [show cutL (iL (c :: r)) (some (1 + c)) (some 15) = iL (((c :: r).take 15).drop (1 + c).toNat) from by show (iL (c :: r) |>.take 15).drop _ = _; rw [iL_take, iL_drop]]
      repeat k_all
      generalize hz : ((c :: r).take 15).drop (1 + c).toNat = z
      refine forW_rule (fun i loc H' => (loc = [(Str.ofString "block", .lst (iL (c :: r))), (Str.ofString "count", .int c)] ∨ ∃ d, loc = [(Str.ofString "block", .lst (iL (c :: r))), (Str.ofString "count", .int c), (Str.ofString "x", d)]) ∧ H' = H ∧ (z.take i).all (· == 0) = true) ?_ ?_ ⟨.inl rfl, rfl, rfl⟩
      · intro i d loc H' K hi hI kn kc kb kr
        obtain ⟨hloc, rfl, hb'⟩ := hI
        obtain ⟨v, rfl, hv⟩ := iL_at hi
        refine ⟨[(Str.ofString "block", .lst (iL (c :: r))), (Str.ofString "count", .int c), (Str.ofString "x", .int v)], ?_, ?_⟩
        · rcases hloc with rfl | ⟨d, rfl⟩ <;> rfl
        by_cases c1 : v = 0
        · have f1 : (v == (0 : Int)) = true := beq_iff_eq.mpr c1
          repeat k_all
          refine kn _ _ trivial ⟨.inr ⟨_, rfl⟩, rfl, ?_⟩
          rw [take_succ hv, List.all_append, hb']
          simp [c1]
        · have f1 : (v == (0 : Int)) = false := beq_eq_false_iff_ne.mpr c1
          repeat k_all
          refine hx ?_
          unfold decodeHeader
          dsimp only
          rw [hz, if_neg]
          simp only [Bool.and_eq_true]
          intro q
          have := List.all_eq_true.mp q.2 v (List.mem_of_getElem? hv)
          rw [f1] at this
          cases this
      · intro loc H' hI
        obtain ⟨hloc, rfl, hb'⟩ := hI
        rw [iL_len, List.take_length] at hb'
        have fin : Q (.lst (iL (((c :: r).take (1 + c).toNat).drop 1))) H' := by
          refine hq _ ?_
          unfold decodeHeader
          dsimp only
          rw [hz, hs, hb', if_pos]
          simp only [Bool.true_and, Bool.and_true, decide_eq_true_eq]
          omega
        rcases hloc with rfl | ⟨d, rfl⟩
        all_goals (
          repeat k_all
          refine ex_cut rfl (i := some 1) (j := some (1 + c)) rfl ?_ ?_
          · show (if 0 ≤ 1 + c then some (some (1 + c)) else none) = _
            rw [if_pos (by omega)]
          rw [show cutL (iL (c :: r)) (some 1) (some (1 + c)) = iL (((c :: r).take (1 + c).toNat).drop 1) from by show (iL (c :: r) |>.take (1 + c).toNat).drop 1 = _; rw [iL_take, iL_drop]]
          repeat k_all
          exact fin)

theorem toPs_iL : ∀ l : List Int, toPs (iL l) = some (l.map .int)
  | [] => rfl
  | a :: l => by show (toPs (iL l)).map _ = _; rw [toPs_iL l]; rfl
theorem canLay_iL : ∀ l : List Int, PyData.canLayAll0 (l.map .int) = true
  | [] => rfl
  | a :: l => by rw [List.map_cons, PyData.canLayAll0, canLay_iL l]; rfl
theorem depth_iL : ∀ l : List Int, PyData.depthAll (l.map .int) = 0
  | [] => rfl
  | a :: l => by rw [List.map_cons, PyData.depthAll, depth_iL l]; rfl
theorem shaped_iL (l : List Int) : shapedP (.list (l.map .int)) = true := by
  unfold shapedP
  rw [PyData.canLay0, canLay_iL, PyData.depth, depth_iL]; rfl
theorem eqv_iL : ∀ a b : List Int, PyData.eqvAll (a.map .int) (b.map .int) = (a == b)
  | [], [] => rfl
  | [], _ :: _ => rfl
  | _ :: _, [] => rfl
  | x :: a, y :: b => by
    rw [List.map_cons, List.map_cons, PyData.eqvAll, eqv_iL a b]
    rfl
theorem eqD_iL (a b : List Int) : eqD (.lst (iL a)) (.lst (iL b)) = some (a == b) := by
  have t : ∀ l, toP (.lst (iL l)) = some (.list (l.map .int)) := fun l => by show (toPs (iL l)).map PyData.list = _; rw [toPs_iL]; rfl
  unfold eqD
  rw [t, t]
  dsimp only
  rw [shaped_iL, shaped_iL]
  show some (PyData.eqv (PyData.list (a.map PyData.int)) (PyData.list (b.map PyData.int))) = _
  rw [PyData.eqv, eqv_iL]

section
variable {H : Hp} {P : Bool → Prop}
theorem ex_eqL {a b : List Int} (q : P (a == b)) : ∃ c, cmpD .Eq (view H (.lst (iL a))) (view H (.lst (iL b))) = some c ∧ P c := ⟨_, eqD_iL a b, q⟩
theorem ex_neL {a b : List Int} (q : P (!(a == b))) : ∃ c, cmpD .NotEq (view H (.lst (iL a))) (view H (.lst (iL b))) = some c ∧ P c := ⟨_, by show (eqD _ _).map _ = _; rw [show view H (.lst (iL a)) = .lst (iL a) from rfl, show view H (.lst (iL b)) = .lst (iL b) from rfl, eqD_iL]; rfl, q⟩
end

/-- the border bytes -/
noncomputable def BY : List Int := [0, 1, 2, 3, 127, 128, 254, 255]
noncomputable def byteAt (a : Int) : Int := BY.getD (a.fmod 8).toNat 0
theorem byteAt_ok (a : Int) : BY[(a.fmod 8).toNat]? = some (byteAt a) ∧ 0 ≤ a.fmod 8 := by
  rw [Int.fmod_eq_emod_of_nonneg _ (by decide)]
  have h : (a % 8).toNat < 8 := by omega
  have h0 : 0 ≤ a % 8 := by omega
  refine ⟨?_, h0⟩
  unfold byteAt
  rw [Int.fmod_eq_emod_of_nonneg _ (by decide)]
  rw [List.getD_eq_getElem?_getD]
  have : BY[(a % 8).toNat]? = some BY[(a % 8).toNat] := List.getElem?_eq_getElem h
  rw [this]; rfl
theorem byteAt_byte (a : Int) : 0 ≤ byteAt a ∧ byteAt a ≤ 255 := by
  have h := List.mem_of_getElem? (byteAt_ok a).1
  have : ∀ x ∈ BY, 0 ≤ x ∧ x ≤ 255 := by decide
  exact this _ h
section
variable {H : Hp} {Q : D → Prop}
theorem ex_byte {a : Int} (q : Q (.int (byteAt a))) : ∃ d, idxD (view H (.tup [.int 0, .int 1, .int 2, .int 3, .int 127, .int 128, .int 254, .int 255])) (.int (a.fmod 8)) = some d ∧ Q d := by
  refine ⟨_, ?_, q⟩
  show (if 0 ≤ a.fmod 8 then (iL BY)[(a.fmod 8).toNat]? else none) = _
  rw [if_pos (byteAt_ok a).2, iL_get, (byteAt_ok a).1]; rfl
end

theorem cw_lfour {w : World} {s : Shared} (B : Bs w s) (j : Nat) {a b c d : Int} {H : Hp} {Q : D → Hp → Prop} {X : Value → Hp → Prop} (hq : Q (.lst (iL [byteAt a, byteAt b, byteAt c, byteAt d])) H) : CW (mkG w s) (j + 1) 295 [.int a, .int b, .int c, .int d] H Q X := by
  refine fn_cwK (B.pok j) 295 [Str.ofString "a", Str.ofString "b", Str.ofString "c", Str.ofString "d"] (by kernel_rfl) (bind4 fun a b c d => by kernel_rfl) rfl ?_
  conv in (bodyAt _ _) => whnf
  conv in (Scope.names _) => whnf
  repeat k_all
  refine ex_byte ?_
  repeat k_all
  refine ex_byte ?_
  repeat k_all
  refine ex_byte ?_
  repeat k_all
  refine ex_byte ?_
  repeat k_all
  exact hq

theorem cw_number {w : World} {s : Shared} (B : Bs w s) (j : Nat) {a b c d : Int} {H : Hp} {Q : D → Hp → Prop} {X : Value → Hp → Prop} (hb : bytesOk [a, b, c, d] = true) (hq : Q (.int (num4 [a, b, c, d])) H) : CW (mkG w s) (j + 1) 302 [.lst (iL [a, b, c, d])] H Q X := by
  unfold bytesOk at hb
  simp only [List.all_cons, List.all_nil, Bool.and_true, Bool.and_eq_true, decide_eq_true_eq] at hb
  refine fn_cwK (B.pok j) 302 [Str.ofString "four"] (by kernel_rfl) (bind1 fun a => by kernel_rfl) rfl ?_
  conv in (bodyAt _ _) => whnf
  conv in (Scope.names _) => whnf
  repeat k_all
  refine ex_mul (small_of (by omega)) rfl ?_
  repeat k_all
  refine ex_mul (small_of (by omega)) rfl ?_
  repeat k_all
  refine ex_mul (small_of (by omega)) rfl ?_
  repeat k_all
  rw [show a * 16777216 + b * 65536 + c * 256 + d = num4 [a, b, c, d] from by show _ = ((a * 256 + b) * 256 + c) * 256 + d; omega]
  exact hq

theorem sum_rep0 (l : List Int) (n : Nat) : (l ++ List.replicate n 0).sum = l.sum := by
  rw [List.sum_append]
  have : (List.replicate n (0 : Int)).sum = 0 := by induction n with | zero => rfl | succ n ih => rw [List.replicate_succ, List.sum_cons, ih]; rfl
  rw [this]; omega

theorem cw_lseal {w : World} {s : Shared} (B : Bs w s) (j : Nat) {l : List Int} {H : Hp} {Q : D → Hp → Prop} {X : Value → Hp → Prop} (h1 : l.all tiny = true) (h2 : l.length ≤ 100) (hq : Q (.lst (iL (sealedP l))) H) : CW (mkG w s) (j + 1) 309 [.lst (iL l)] H Q X := by
  refine fn_cwK (B.pok j) 309 [Str.ofString "body"] (by kernel_rfl) (bind1 fun a => by kernel_rfl) rfl ?_
  conv in (bodyAt _ _) => whnf
  conv in (Scope.names _) => whnf
  repeat k_all
  rw [iL_len]
  refine ex_rep (small_of (by omega)) (by simp; omega) ?_
  refine ex_addL (by rw [iL_rep, iL_len, iL_len, List.length_replicate]; omega) ?_
  rw [iL_rep, ← iL_app]
  repeat k_all
  refine ex_sum ?_ (by rw [List.length_append, List.length_replicate]; omega) ?_
  · rw [List.all_append, h1]
    simp only [Bool.true_and, List.all_eq_true]
    intro x hx
    rw [List.mem_replicate] at hx
    rw [hx.2]; rfl
  repeat k_all
  refine ex_addL (by rw [iL_len, List.length_append, List.length_replicate]; simp; omega) ?_
  rw [sum_rep0]
  show Q (.lst (iL (l ++ List.replicate (15 - (l.length : Int)).toNat 0) ++ iL [l.sum.fmod 256])) H
  rw [← iL_app]
  exact hq

noncomputable def damageP (g : List Int) (k p it : Int) : List Int :=
  if k = 0 then g.take p.toNat ++ [it] ++ g.drop (p + 1).toNat
  else if k = 1 then g.take p.toNat ++ g.drop (p + 1).toNat
  else if k = 2 then g.take (p + 1).toNat ++ g.drop p.toNat
  else sealedP ((g.take p.toNat ++ [it] ++ g.drop (p + 1).toNat).take 15)

theorem part_some {i : Int} (h : 0 ≤ i) : partD (some (.int i)) = some (some i) := by show (if 0 ≤ i then _ else _) = _; rw [if_pos h]
theorem cut_hi (l : List Int) (i : Int) : cutL (iL l) none (some i) = iL (l.take i.toNat) := iL_take l _
theorem cut_lo (l : List Int) (i : Int) : cutL (iL l) (some i) none = iL (l.drop i.toNat) := iL_drop l _
theorem cut_both (l : List Int) (i j : Int) : cutL (iL l) (some i) (some j) = iL ((l.take j.toNat).drop i.toNat) := by show ((iL l).take _).drop _ = _; rw [iL_take, iL_drop]

theorem cw_damage {w : World} {s : Shared} (B : Bs w s) (j : Nat) {g : List Int} {k p it : Int} {H : Hp} {Q : D → Hp → Prop} {X : Value → Hp → Prop} (hg : g.length ≤ 40) (ht : g.all tiny = true) (hi : tiny it = true) (hp : 0 ≤ p) (hq : Q (.lst (iL (damageP g k p it))) H) :
    CW (mkG w s) (j + 2) 316 [.lst (iL g), .int k, .int p, .int it] H Q X := by
  refine fn_cwK (B.pok (j + 1)) 316 [Str.ofString "good", Str.ofString "kind", Str.ofString "place", Str.ofString "item"] (by kernel_rfl) (bind4 fun a b c d => by kernel_rfl) rfl ?_
  conv in (bodyAt _ _) => whnf
  conv in (Scope.names _) => whnf
  repeat k_all
  refine ex_cut rfl rfl (part_some hp) ?_
  rw [cut_hi]
  repeat k_all
  refine ex_addL (by rw [iL_len]; simp; omega) ?_
  repeat k_all
  refine ex_cut rfl (part_some (by omega)) rfl ?_
  rw [cut_lo]
  refine ex_addL (by rw [List.length_append, iL_len, iL_len]; simp; omega) ?_
  repeat k_all
  rw [show iL (List.take p.toNat g) ++ [D.int it] ++ iL (List.drop (p + 1).toNat g) = iL (List.take p.toNat g ++ [it] ++ List.drop (p + 1).toNat g) from by rw [iL_app, iL_app]; rfl]
  unfold damageP at hq
  by_cases k0 : k = 0
  · have f : (k == (0 : Int)) = true := beq_iff_eq.mpr k0
    repeat k_all
    rw [if_pos k0] at hq
    exact hq
  · have f : (k == (0 : Int)) = false := beq_eq_false_iff_ne.mpr k0
    rw [if_neg k0] at hq
    repeat k_all
    by_cases k1 : k = 1
    · have f : (k == (1 : Int)) = true := beq_iff_eq.mpr k1
      rw [if_pos k1] at hq
      repeat k_all
      refine ex_cut rfl rfl (part_some hp) ?_
      rw [cut_hi]
      repeat k_all
      refine ex_cut rfl (part_some (by omega)) rfl ?_
      rw [cut_lo]
      refine ex_addL (by rw [iL_len, iL_len]; simp; omega) ?_
      rw [← iL_app]
      exact hq
    · have f : (k == (1 : Int)) = false := beq_eq_false_iff_ne.mpr k1
      rw [if_neg k1] at hq
      repeat k_all
      by_cases k2 : k = 2
      · have f : (k == (2 : Int)) = true := beq_iff_eq.mpr k2
        rw [if_pos k2] at hq
        repeat k_all
        refine ex_cut rfl rfl (part_some (by omega)) ?_
        rw [cut_hi]
        repeat k_all
        refine ex_cut rfl (part_some hp) rfl ?_
        rw [cut_lo]
        refine ex_addL (by rw [iL_len, iL_len]; simp; omega) ?_
        rw [← iL_app]
        exact hq
      · have f : (k == (2 : Int)) = false := beq_eq_false_iff_ne.mpr k2
        rw [if_neg k2] at hq
        repeat k_all
        rw [cut_hi]
        refine cw_lseal B j ?_ (by simp; omega) hq
        rw [List.all_eq_true]
        intro x hx
        have hx := List.mem_of_mem_take hx
        rcases List.mem_append.mp hx with hx | hx
        · rcases List.mem_append.mp hx with hx | hx
          · exact List.all_eq_true.mp ht x (List.mem_of_mem_take hx)
          · rw [List.mem_singleton.mp hx]; exact hi
        · exact List.all_eq_true.mp ht x (List.mem_of_mem_drop hx)

theorem sealedP_len {l : List Int} (h : l.length ≤ 15) : (sealedP l).length = 16 := by
  unfold sealedP
  rw [List.length_append, List.length_append, List.length_replicate]
  simp; omega

theorem sealedP_15 {l : List Int} (h : l.length = 15) : sealedP l = l ++ [l.sum.fmod 256] := by
  unfold sealedP
  rw [h]
  simp

/-- the law's own test of a block -/
theorem whole_eq (l : List Int) (hb : bytesOk l = true) : (l == sealedP (l.take 15)) = sealP l := by
  unfold sealP
  rw [hb, Bool.and_true]
  by_cases h : l.length = 16
  · have h15 : (l.take 15).length = 15 := by simp; omega
    obtain ⟨a0, a1, a2, a3, a4, a5, a6, a7, a8, a9, a10, a11, a12, a13, a14, a15, rfl⟩ := len16 h
    rw [sealedP_15 h15, decide_eq_true h, Bool.true_and]
    rw [Bool.eq_iff_iff]
    simp
  · rw [decide_eq_false h, Bool.false_and, beq_eq_false_iff_ne]
    intro q
    have := congrArg List.length q
    rw [sealedP_len (by simp; omega)] at this
    exact h this

theorem min_fold : ∀ (r : List Int) (x : Int), (r.foldl min x < 0 ↔ ∃ y ∈ x :: r, y < 0)
  | [], x => by simp
  | z :: r, x => by
    rw [List.foldl_cons, min_fold r]
    simp only [List.mem_cons, exists_eq_or_imp]
    constructor
    · rintro (h | h)
      · rcases Int.le_total x z with q | q
        · rw [Int.min_eq_left q] at h; exact .inl h
        · rw [Int.min_eq_right q] at h; exact .inr (.inl h)
      · exact .inr (.inr h)
    · rintro (h | h | h)
      · exact .inl (by omega)
      · exact .inl (by omega)
      · exact .inr h
theorem max_fold : ∀ (r : List Int) (x : Int), (255 < r.foldl max x ↔ ∃ y ∈ x :: r, 255 < y)
  | [], x => by simp
  | z :: r, x => by
    rw [List.foldl_cons, max_fold r]
    simp only [List.mem_cons, exists_eq_or_imp]
    constructor
    · rintro (h | h)
      · rcases Int.le_total x z with q | q
        · rw [Int.max_eq_right q] at h; exact .inr (.inl h)
        · rw [Int.max_eq_left q] at h; exact .inl h
      · exact .inr (.inr h)
    · rintro (h | h | h)
      · exact .inl (by omega)
      · exact .inl (by omega)
      · exact .inr h
theorem bytes_fold (x : Int) (r : List Int) : bytesOk (x :: r) = true ↔ ¬ r.foldl min x < 0 ∧ ¬ 255 < r.foldl max x := by
  rw [min_fold, max_fold]
  unfold bytesOk
  rw [List.all_eq_true]
  constructor
  · intro h
    exact ⟨fun ⟨y, hy, q⟩ => by have := h y hy; simp only [decide_eq_true_eq] at this; omega, fun ⟨y, hy, q⟩ => by have := h y hy; simp only [decide_eq_true_eq] at this; omega⟩
  · rintro ⟨h1, h2⟩ y hy
    simp only [decide_eq_true_eq]
    refine ⟨?_, ?_⟩
    · rcases Int.lt_or_le y 0 with q | q
      · exact absurd ⟨y, hy, q⟩ h1
      · exact q
    · rcases Int.lt_or_le 255 y with q | q
      · exact absurd ⟨y, hy, q⟩ h2
      · exact q

theorem sealP_parts {l : List Int} (h : sealP l = true) : l.length = 16 ∧ bytesOk l = true ∧ l[15]? = some ((l.take 15).sum.fmod 256) := by
  unfold sealP at h
  simp only [Bool.and_eq_true, decide_eq_true_eq] at h
  exact ⟨h.1.1, h.1.2, h.2⟩

theorem slot_full {l : List Int} (h : sealP l = true) : (l == sealedP (1 :: (l.take 9).drop 1)) = (l[0]? == some 1 && zeros ((l.take 15).drop 9)) := by
  obtain ⟨hl, _, hs⟩ := sealP_parts h
  obtain ⟨a0, a1, a2, a3, a4, a5, a6, a7, a8, a9, a10, a11, a12, a13, a14, a15, rfl⟩ := len16 hl
  unfold sealedP zeros
  rw [Bool.eq_iff_iff]
  simp [List.replicate] at hs ⊢
  rintro rfl rfl rfl rfl rfl rfl rfl
  rw [hs]
  congr 1
  omega

theorem rep_take (l : List Int) (n : Nat) (h : l.all (· == 0) = true) : l = List.replicate l.length 0 := by
  rw [List.eq_replicate_iff]
  refine ⟨rfl, fun x hx => ?_⟩
  simpa using List.all_eq_true.mp h x hx

theorem slot_none {l : List Int} (h : sealP l = true) : (l == List.replicate 16 0) = (l[0]? == some 0 && zeros ((l.take 15).drop 9) && zeros ((l.take 9).drop 1)) := by
  obtain ⟨hl, _, hs⟩ := sealP_parts h
  obtain ⟨a0, a1, a2, a3, a4, a5, a6, a7, a8, a9, a10, a11, a12, a13, a14, a15, rfl⟩ := len16 hl
  clear h hl
  refine Bool.eq_iff_iff.mpr ⟨fun e => ?_, fun e => ?_⟩
  · rw [beq_iff_eq.mp e]; rfl
  · obtain ⟨e, h2⟩ := Bool.and_eq_true_iff.mp e
    obtain ⟨h0, h1⟩ := Bool.and_eq_true_iff.mp e
    have z0 : some a0 = some 0 := beq_iff_eq.mp h0
    have z1 : [a9, a10, a11, a12, a13, a14] = List.replicate 6 0 := rep_take _ 0 h1
    have z2 : [a1, a2, a3, a4, a5, a6, a7, a8] = List.replicate 8 0 := rep_take _ 0 h2
    clear h0 h1 h2 e
    cases z0; cases z1; cases z2
    have z3 : some a15 = some 0 := hs
    cases z3
    rfl
theorem not_seal_zero {l : List Int} (h : sealP l = false) : (l == List.replicate 16 0) = false := by
  rw [beq_eq_false_iff_ne]
  rintro rfl
  revert h
  decide

/-- the header that the law's seal gives -/
theorem head_eq {c : Int} {r : List Int} (h : sealP (c :: r) = true) (hc : c ≤ 14) : ((c :: r) == sealedP ((c :: r).take (c + 1).toNat)) = (((c :: r).take 15).drop (1 + c).toNat).all (· == 0) := by
  obtain ⟨hl, hb, hs⟩ := sealP_parts h
  have h0 : 0 ≤ c := by
    have := List.all_eq_true.mp hb c (.head _)
    simp only [decide_eq_true_eq] at this
    exact this.1
  generalize hL : c :: r = L at hl hb hs ⊢
  obtain ⟨n, rfl⟩ := Int.eq_ofNat_of_zero_le h0
  rw [show ((n : Int) + 1).toNat = n + 1 by omega, show (1 + (n : Int)).toNat = n + 1 by omega]
  have hn : n + 1 ≤ 15 := by omega
  have split15 : L.take 15 = L.take (n + 1) ++ (L.take 15).drop (n + 1) := by
    conv => lhs; rw [← List.take_append_drop (n + 1) (L.take 15)]
    rw [List.take_take, Nat.min_eq_left hn]
  have hd : ((L.take 15).drop (n + 1)).length = 15 - (n + 1) := by simp; omega
  have hL16 : L = L.take 15 ++ [(L.take 15).sum.fmod 256] := by
    conv => lhs; rw [← List.take_append_drop 15 L]
    congr 1
    have hd1 : (L.drop 15).length = 1 := by simp; omega
    have : (L.drop 15)[0]? = some ((L.take 15).sum.fmod 256) := by rw [List.getElem?_drop]; exact hs
    match hq : L.drop 15, hd1, this with
    | [x], _, h => simp at h; rw [h]
  have hlen : (L.take (n + 1)).length = n + 1 := by simp; omega
  rw [Bool.eq_iff_iff, beq_iff_eq]
  constructor
  · intro q
    have q15 := congrArg (List.take 15) q
    unfold sealedP at q15
    rw [hlen, show (15 - ((n + 1 : Nat) : Int)).toNat = 15 - (n + 1) by omega] at q15
    rw [List.take_append_of_le_length (by rw [List.length_append, hlen, List.length_replicate]; omega), List.take_of_length_le (l := L.take (n + 1) ++ List.replicate (15 - (n + 1)) 0) (by rw [List.length_append, hlen, List.length_replicate]; omega)] at q15
    rw [split15] at q15
    have := List.append_cancel_left q15
    rw [this]
    simp
  · intro q
    have hz : (L.take 15).drop (n + 1) = List.replicate (15 - (n + 1)) 0 := by
      have := rep_take _ 0 q
      rw [hd] at this
      exact this
    unfold sealedP
    rw [hlen, show (15 - ((n + 1 : Nat) : Int)).toNat = 15 - (n + 1) by omega, ← hz, ← split15]
    have hsum : (L.take (n + 1)).sum = (L.take 15).sum := by
      rw [split15, List.sum_append, hz]
      have : ∀ m : Nat, (List.replicate m (0 : Int)).sum = 0 := fun m => by induction m with | zero => rfl | succ m ih => rw [List.replicate_succ, List.sum_cons, ih]; rfl
      rw [this]
      omega
    rw [hsum]
    exact hL16

section
variable {H : Hp} {Q : D → Prop}
theorem ex_min {x : Int} {r : List Int} (q : Q (.int (r.foldl min x))) : ∃ d, biD "min" ([.lst (iL (x :: r))].map (view H)) = some d ∧ Q d := by
  refine ⟨_, ?_, q⟩
  show ((intsOf (iL (x :: r))).bind fun l => (match l with | x :: l => some (D.int (l.foldl min x)) | [] => none)) = _
  rw [intsOf_iL]
  rfl
theorem ex_max {x : Int} {r : List Int} (q : Q (.int (r.foldl max x))) : ∃ d, biD "max" ([.lst (iL (x :: r))].map (view H)) = some d ∧ Q d := by
  refine ⟨_, ?_, q⟩
  show ((intsOf (iL (x :: r))).bind fun l => (match l with | x :: l => some (D.int (l.foldl max x)) | [] => none)) = _
  rw [intsOf_iL]
  rfl
end

theorem cw_whole {w : World} {s : Shared} (B : Bs w s) (j : Nat) {x : Int} {r : List Int} {H : Hp} {Q : D → Hp → Prop} {X : Value → Hp → Prop} (hq : Q (.bool (sealP (x :: r))) H) : CW (mkG w s) (j + 2) 323 [.lst (iL (x :: r))] H Q X := by
  refine fn_cwK (B.pok (j + 1)) 323 [Str.ofString "block"] (by kernel_rfl) (bind1 fun a => by kernel_rfl) rfl ?_
  conv in (bodyAt _ _) => whnf
  conv in (Scope.names _) => whnf
  repeat k_all
  refine ex_min ?_
  repeat k_all
  have no : bytesOk (x :: r) = false → Q (.bool false) H := fun hb => by
    have : sealP (x :: r) = false := by unfold sealP; rw [hb, Bool.and_false, Bool.false_and]
    rw [this] at hq; exact hq
  by_cases c1 : r.foldl min x < 0
  · have f1 := decide_eq_true c1
    repeat k_all
    exact no (by rw [Bool.eq_false_iff]; intro z; exact ((bytes_fold x r).mp z).1 c1)
  · have f1 := decide_eq_false c1
    repeat k_all
    refine ex_max ?_
    repeat k_all
    by_cases c2 : 255 < r.foldl max x
    · have f2 := decide_eq_true c2
      repeat k_all
      exact no (by rw [Bool.eq_false_iff]; intro z; exact ((bytes_fold x r).mp z).2 c2)
    · have f2 := decide_eq_false c2
      have hb := (bytes_fold x r).mpr ⟨c1, c2⟩
      repeat k_all
      rw [cut_hi]
      refine cw_lseal B j (tiny_of_bytes (bytesOk_take hb)) (by simp; omega) ?_
      refine ex_eqL ?_
      repeat k_all
      rw [show (15 : Int).toNat = 15 from rfl, whole_eq _ hb]
      exact hq

noncomputable def slotD (l : List Int) : D := match decodeSlot l with
  | some r => .tup [.bool r.1, .int r.2.1, .int r.2.2]
  | none => .str (Str.ofString "refused")
noncomputable def headD (l : List Int) : D := match decodeHeader l with
  | some r => .lst (iL r)
  | none => .str (Str.ofString "refused")

theorem cw_slot_read {w : World} {s : Shared} (B : Bs w s) (j : Nat) {l : List Int} {H : Hp} {Q : D → Hp → Prop} {X : Value → Hp → Prop} (hq : Q (slotD l) H) : CW (mkG w s) (j + 3) 349 [.lst (iL l)] H Q X := by
  refine fn_cwK (B.pok (j + 2)) 349 [Str.ofString "block"] (by kernel_rfl) (bind1 fun a => by kernel_rfl) rfl ?_
  conv in (bodyAt _ _) => whnf
  conv in (Scope.names _) => whnf
  repeat k_all
  refine cw_decode_slot B j (fun r hr => ?_) (fun hr => ?_)
  · repeat k_all
    unfold slotD at hq
    rw [hr] at hq
    exact hq
  · repeat k_all
    unfold slotD at hq
    rw [hr] at hq
    exact hq
theorem cw_header_read {w : World} {s : Shared} (B : Bs w s) (j : Nat) {l : List Int} {H : Hp} {Q : D → Hp → Prop} {X : Value → Hp → Prop} (hq : Q (headD l) H) : CW (mkG w s) (j + 3) 356 [.lst (iL l)] H Q X := by
  refine fn_cwK (B.pok (j + 2)) 356 [Str.ofString "block"] (by kernel_rfl) (bind1 fun a => by kernel_rfl) rfl ?_
  conv in (bodyAt _ _) => whnf
  conv in (Scope.names _) => whnf
  repeat k_all
  refine cw_decode_header B j (fun r hr => ?_) (fun hr => ?_)
  · repeat k_all
    unfold headD at hq
    rw [hr] at hq
    exact hq
  · repeat k_all
    unfold headD at hq
    rw [hr] at hq
    exact hq

theorem four_mid {l : List Int} (hl : l.length = 16) : (∃ a b c d, (l.take 5).drop 1 = [a, b, c, d]) ∧ ∃ a b c d, (l.take 9).drop 5 = [a, b, c, d] := by
  obtain ⟨a0, a1, a2, a3, a4, a5, a6, a7, a8, a9, a10, a11, a12, a13, a14, a15, rfl⟩ := len16 hl
  exact ⟨⟨a1, a2, a3, a4, rfl⟩, a5, a6, a7, a8, rfl⟩

theorem cw_slot_due {w : World} {s : Shared} (B : Bs w s) (j : Nat) {l : List Int} {H : Hp} {Q : D → Hp → Prop} {X : Value → Hp → Prop} (hne : l ≠ []) (hq : Q (slotD l) H) : CW (mkG w s) (j + 3) 330 [.lst (iL l)] H Q X := by
  obtain ⟨x, r, rfl⟩ : ∃ x r, l = x :: r := by cases l with | nil => exact absurd rfl hne | cons x r => exact ⟨x, r, rfl⟩
  refine fn_cwK (B.pok (j + 2)) 330 [Str.ofString "block"] (by kernel_rfl) (bind1 fun a => by kernel_rfl) rfl ?_
  conv in (bodyAt _ _) => whnf
  conv in (Scope.names _) => whnf
  repeat k_all
  refine cw_whole B j ?_
  unfold slotD decodeSlot at hq
  cases hs : sealP (x :: r) with
  | false =>
    rw [hs] at hq
    repeat k_all
    rw [show ((List.replicate (Int.toNat 16) [D.int 0]).flatten) = iL (List.replicate 16 0) from iL_rep 16]
    refine ex_eqL ?_
    have f := not_seal_zero hs
    repeat k_all
    exact hq
  | true =>
    obtain ⟨hl, hb, h15⟩ := sealP_parts hs
    obtain ⟨⟨b1, b2, b3, b4, m1⟩, b5, b6, b7, b8, m2⟩ := four_mid hl
    have hb1 : bytesOk [b1, b2, b3, b4] = true := by rw [← m1]; exact bytesOk_drop (bytesOk_take hb)
    have hb2 : bytesOk [b5, b6, b7, b8] = true := by rw [← m2]; exact bytesOk_drop (bytesOk_take hb)
    rw [hs, Bool.true_and] at hq
    repeat k_all
    rw [cut_both]
    refine ex_addL ?_ ?_
    · rw [iL_len]; simp; omega
    repeat k_all
    refine cw_lseal (l := 1 :: ((x :: r).take 9).drop 1) B (j + 1) ?_ (by simp; omega) ?_
    · rw [List.all_cons, tiny_of_bytes (bytesOk_drop (bytesOk_take hb))]; rfl
    refine ex_eqL ?_
    have e1 := slot_full hs
    have e2 := slot_none hs
    cases hf : ((x :: r) == sealedP (1 :: ((x :: r).take 9).drop 1)) with
    | true =>
      rw [hf] at e1
      have e1' : ((x :: r)[0]? == some 1) = true ∧ zeros (((x :: r).take 15).drop 9) = true := by simpa using e1.symm
      repeat k_all
      rw [cut_both, show ((x :: r).take (Int.toNat 5)).drop (Int.toNat 1) = [b1, b2, b3, b4] from m1]
      refine cw_number B (j + 1) hb1 ?_
      repeat k_all
      rw [cut_both, show ((x :: r).take (Int.toNat 9)).drop (Int.toNat 5) = [b5, b6, b7, b8] from m2]
      refine cw_number B (j + 1) hb2 ?_
      repeat k_all
      rw [e1'.1, e1'.2, m1, m2] at hq
      simp at hq
      exact hq
    | false =>
      rw [hf] at e1
      repeat k_all
      rw [show ((List.replicate (Int.toNat 16) [D.int 0]).flatten) = iL (List.replicate 16 0) from iL_rep 16]
      refine ex_eqL ?_
      cases hz : ((x :: r) == List.replicate 16 0) with
      | true =>
        repeat k_all
        have hz' : x :: r = List.replicate 16 0 := by simpa using hz
        rw [hz'] at hq
        exact hq
      | false =>
        repeat k_all
        rw [hz] at e2
        have : ((((x :: r)[0]? == some 0 || (x :: r)[0]? == some 1) && zeros (((x :: r).take 15).drop 9)) && ((x :: r)[0]? == some 1 || zeros (((x :: r).take 9).drop 1))) = false := by
          cases g0 : ((x :: r)[0]? == some 0) <;> cases g1 : ((x :: r)[0]? == some 1) <;> cases g2 : zeros (((x :: r).take 15).drop 9) <;> cases g3 : zeros (((x :: r).take 9).drop 1) <;> simp_all
        rw [this] at hq
        exact hq

theorem cw_header_due {w : World} {s : Shared} (B : Bs w s) (j : Nat) {l : List Int} {H : Hp} {Q : D → Hp → Prop} {X : Value → Hp → Prop} (hne : l ≠ []) (hq : Q (headD l) H) : CW (mkG w s) (j + 3) 337 [.lst (iL l)] H Q X := by
  obtain ⟨x, r, rfl⟩ : ∃ x r, l = x :: r := by cases l with | nil => exact absurd rfl hne | cons x r => exact ⟨x, r, rfl⟩
  refine fn_cwK (B.pok (j + 2)) 337 [Str.ofString "block"] (by kernel_rfl) (bind1 fun a => by kernel_rfl) rfl ?_
  conv in (bodyAt _ _) => whnf
  conv in (Scope.names _) => whnf
  repeat k_all
  refine cw_whole B j ?_
  unfold headD decodeHeader at hq
  dsimp only at hq
  cases hs : sealP (x :: r) with
  | false =>
    rw [hs] at hq
    repeat k_all
    exact hq
  | true =>
    obtain ⟨hl, hb, h15⟩ := sealP_parts hs
    rw [hs, Bool.true_and] at hq
    have h0 : 0 ≤ x := by
      have := List.all_eq_true.mp hb x (.head _)
      simp only [decide_eq_true_eq] at this
      exact this.1
    repeat k_all
    by_cases hx : x < 15
    · have f := decide_eq_true hx
      repeat k_all
      refine ex_cut rfl rfl (part_some (by omega)) ?_
      rw [cut_hi]
      repeat k_all
      refine cw_lseal B (j + 1) (tiny_of_bytes (bytesOk_take hb)) (by simp; omega) ?_
      refine ex_eqL ?_
      rw [head_eq hs (by omega)]
      rw [decide_eq_true (show x ≤ 14 by omega), Bool.true_and] at hq
      cases hz : (((x :: r).take 15).drop (1 + x).toNat).all (· == 0) with
      | true =>
        rw [hz] at hq
        repeat k_all
        refine ex_cut rfl rfl (part_some (by omega)) ?_
        rw [cut_both]
        repeat k_all
        rw [Int.add_comm x 1]
        exact hq
      | false =>
        rw [hz] at hq
        repeat k_all
        exact hq
    · have f := decide_eq_false hx
      repeat k_all
      rw [decide_eq_false (show ¬ x ≤ 14 by omega)] at hq
      exact hq

mutual
theorem eqv_refl : ∀ p : PyData, p.canLay0 = true → PyData.eqv p p = true
  | .none, _ => rfl
  | .bool b, _ => by simp [PyData.eqv]
  | .int i, _ => by simp [PyData.eqv]
  | .str x, _ => by simp [PyData.eqv]
  | .list xs, h => by rw [PyData.eqv]; exact eqvAll_refl xs (by rw [PyData.canLay0] at h; exact h)
  | .tuple xs, h => by rw [PyData.eqv]; exact eqvAll_refl xs (by rw [PyData.canLay0] at h; exact h)
  | .dict _, h => by simp [PyData.canLay0] at h
theorem eqvAll_refl : ∀ ps : List PyData, PyData.canLayAll0 ps = true → PyData.eqvAll ps ps = true
  | [], _ => rfl
  | p :: ps, h => by
    rw [PyData.canLayAll0, Bool.and_eq_true] at h
    rw [PyData.eqvAll, eqv_refl p h.1, eqvAll_refl ps h.2]; rfl
end

/-- data that the law compares with itself -/
noncomputable def Plain (d : D) : Prop := ∃ p items, toP d = some p ∧ shapedP p = true ∧ (∀ H, view H d = d) ∧ itemsD d = some items ∧ items.length ≤ 16777216 ∧ ∀ x ∈ items, ∃ t, tyOf x = some t ∧ ∀ H, view H x = x

theorem Plain.eq {d : D} (h : Plain d) : eqD d d = some true := by
  obtain ⟨p, items, h1, h2, _⟩ := h
  unfold eqD
  rw [h1]
  dsimp only
  rw [h2]
  have : p.canLay0 = true := by unfold shapedP at h2; rw [Bool.and_eq_true] at h2; exact h2.1
  rw [eqv_refl p this]; rfl

theorem toPs_bools : ∀ bs : List Bool, toPs (bs.map .bool) = some (bs.map .bool)
  | [] => rfl
  | a :: l => by show (toPs (l.map .bool)).map _ = _; rw [toPs_bools l]; rfl
theorem canLay_bools : ∀ bs : List Bool, PyData.canLayAll0 (bs.map .bool) = true
  | [] => rfl
  | a :: l => by rw [List.map_cons, PyData.canLayAll0, canLay_bools l]; rfl
theorem depth_bools : ∀ bs : List Bool, PyData.depthAll (bs.map .bool) = 0
  | [] => rfl
  | a :: l => by rw [List.map_cons, PyData.depthAll, depth_bools l]; rfl
theorem eq_bools (bs : List Bool) : eqD (.lst (bs.map .bool)) (.lst (bs.map .bool)) = some true := by
  have t : toP (.lst (bs.map .bool)) = some (.list (bs.map .bool)) := by show (toPs (bs.map .bool)).map PyData.list = _; rw [toPs_bools]; rfl
  have s : shapedP (.list (bs.map .bool)) = true := by unfold shapedP; rw [PyData.canLay0, canLay_bools, PyData.depth, depth_bools]; rfl
  unfold eqD
  rw [t]
  dsimp only
  rw [s]
  show some (PyData.eqv (.list _) (.list _)) = _
  rw [eqv_refl _ (by rw [PyData.canLay0]; exact canLay_bools bs)]

theorem cw_same {w : World} {s : Shared} (B : Bs w s) (j : Nat) {d : D} {H : Hp} {Q : D → Hp → Prop} {X : Value → Hp → Prop} (h : Plain d) (hq : Q (.bool true) H) : CW (mkG w s) (j + 1) 342 [d, d] H Q X := by
  have heq := h.eq
  obtain ⟨p, items, h1, h2, hv, hi, hl, ht⟩ := h
  refine fn_cwK (B.pok j) 342 [Str.ofString "got", Str.ofString "due"] (by kernel_rfl) (bind2 fun a b => by kernel_rfl) rfl ?_
  conv in (bodyAt _ _) => whnf
  conv in (Scope.names _) => whnf
  have ne : ∀ {P : Bool → Prop}, P false → ∃ c, cmpD .NotEq (view H d) (view H d) = some c ∧ P c := fun q => ⟨false, by rw [hv]; show (eqD d d).map _ = _; rw [heq]; rfl, q⟩
  have comp : ∀ {sc : Str → Option NK} {loc : Loc} {X' : Value → Hp → Prop} {Q' : List D → Prop} {a b c e' : Pos} {scope : Scope}, True := trivial
  repeat k_all
  refine ne ?_
  repeat k_all
  refine ⟨items, by rw [hv]; exact hi, hl, ?_⟩
  refine compW_map (fun x => .bool (tyOf x == some "int")) (fun x hx a K hk => ?_) (fun x hx a K hk => ?_) (fun x hx => rfl) ?_
  · repeat k_all
    exact hk
  · obtain ⟨t, e1, e2⟩ := ht x hx
    repeat k_all
    refine ⟨.ty t, by rw [List.map_cons, e2]; show ((tyOf x).bind fun t => some (D.ty t)) = _; rw [e1]; rfl, ?_⟩
    repeat k_all
    rw [e1] at hk
    exact hk
  repeat k_all
  refine ⟨items, by rw [hv]; exact hi, hl, ?_⟩
  refine compW_map (fun x => .bool (tyOf x == some "int")) (fun x hx a K hk => ?_) (fun x hx a K hk => ?_) (fun x hx => rfl) ?_
  · repeat k_all
    exact hk
  · obtain ⟨t, e1, e2⟩ := ht x hx
    repeat k_all
    refine ⟨.ty t, by rw [List.map_cons, e2]; show ((tyOf x).bind fun t => some (D.ty t)) = _; rw [e1]; rfl, ?_⟩
    repeat k_all
    rw [e1] at hk
    exact hk
  refine ⟨true, ?_, hq⟩
  rw [List.nil_append, show items.map (fun x => D.bool (tyOf x == some "int")) = (items.map fun x => (tyOf x == some "int")).map D.bool from by rw [List.map_map]; rfl]
  exact eq_bools _

theorem plain_iL {l : List Int} (h : l.length ≤ 1000) : Plain (.lst (iL l)) := by
  refine ⟨.list (l.map .int), iL l, (by show (toPs (iL l)).map PyData.list = _; rw [toPs_iL]; rfl), shaped_iL l, fun _ => rfl, rfl, by rw [iL_len]; omega, fun x hx => ?_⟩
  obtain ⟨i, _, rfl⟩ := List.mem_map.mp hx
  exact ⟨_, rfl, fun _ => rfl⟩
theorem plain_refused : Plain (.str (Str.ofString "refused")) := by
  refine ⟨.str (Str.ofString "refused"), (Str.ofString "refused").cps.toList.map (fun c => D.str ⟨#[c]⟩), rfl, by decide +kernel, fun _ => rfl, if_pos (by decide +kernel), by rw [List.length_map]; decide +kernel, fun x hx => ?_⟩
  obtain ⟨i, _, rfl⟩ := List.mem_map.mp hx
  exact ⟨_, rfl, fun _ => rfl⟩
theorem plain_slotT (b : Bool) (i k : Int) : Plain (.tup [.bool b, .int i, .int k]) := by
  refine ⟨.tuple [.bool b, .int i, .int k], [.bool b, .int i, .int k], rfl, rfl, fun _ => rfl, rfl, by simp, fun x hx => ?_⟩
  simp at hx
  rcases hx with rfl | rfl | rfl <;> exact ⟨_, rfl, fun _ => rfl⟩
theorem plain_bools (a b : Bool) : Plain (.lst [.bool a, .bool b]) := by
  refine ⟨.list [.bool a, .bool b], [.bool a, .bool b], rfl, rfl, fun _ => rfl, rfl, by simp, fun x hx => ?_⟩
  simp at hx
  rcases hx with rfl | rfl <;> exact ⟨_, rfl, fun _ => rfl⟩
theorem plain_slot (l : List Int) : Plain (slotD l) := by
  unfold slotD
  cases decodeSlot l with
  | none => exact plain_refused
  | some r => exact plain_slotT _ _ _
theorem plain_head {l : List Int} (h : l.length ≤ 1000) : Plain (headD l) := by
  unfold headD
  cases hd : decodeHeader l with
  | none => exact plain_refused
  | some r =>
    refine plain_iL ?_
    unfold decodeHeader at hd
    split at hd
    · split at hd
      · cases hd; simp; simp at h; omega
      · cases hd
    · cases hd

noncomputable def bL (bs : List (List Int)) : List D := bs.map fun b => .lst (iL b)
theorem bL_len (bs : List (List Int)) : (bL bs).length = bs.length := by simp [bL]
theorem bL_get (bs : List (List Int)) (n : Nat) : (bL bs)[n]? = bs[n]?.map fun b => .lst (iL b) := by simp [bL]
theorem bL_set (bs : List (List Int)) (n : Nat) (b : List Int) : (bL bs).set n (.lst (iL b)) = bL (bs.set n b) := by simp [bL, List.map_set]

noncomputable def attrGet (fs : List (Str × D)) (name : Str) : Option D := match getL name fs with | some (.bi _) => none | r => r
section
variable {p : Pg} {H : Hp} {C : Addr} {i : Nat} {fs : List (Str × D)} {name : Str}
theorem ex_attr {d : D} {Q : D → Prop} (hH : H[i]? = some (.dict fs)) (hf : p.fld C name = true) (hg : attrGet fs name = some d) (q : Q d) : ∃ d, attrD p H (.inst C i) name = some d ∧ Q d :=
  ⟨d, by unfold attrD; dsimp only; rw [if_pos hf, hH]; exact hg, q⟩
theorem ex_meth {f : Addr} {Q : Addr → Prop} (hH : H[i]? = some (.dict fs)) (hg : getL name fs = none) (hm : p.meth C name = some f) (q : Q f) : (∃ fs, H[i]? = some (.dict fs) ∧ getL name fs = none) ∧ ∃ f, p.meth C name = some f ∧ Q f := ⟨⟨fs, hH, hg⟩, f, hm, q⟩
theorem ex_set {Q : Hp → Prop} {d : D} (hf : p.sfd C name = true) (hH : H[i]? = some (.dict fs)) (hl : fs.length ≤ 1000) (q : Q (H.set i (.dict (setL name d fs)))) : p.sfd C name = true ∧ ∃ fs, H[i]? = some (.dict fs) ∧ fs.length ≤ 1000 ∧ Q (H.set i (.dict (setL name d fs))) := ⟨hf, fs, hH, hl, q⟩
theorem view_m {x : List D} (h : H[i]? = some (.lst x)) : view H (.mref i) = .lst x := by dsimp only [view]; rw [h]
end

theorem setL_len (x : Str) (d : D) : ∀ fs : List (Str × D), (setL x d fs).length ≤ fs.length + 1
  | [] => by simp [setL]
  | (y, e) :: r => by
    rw [setL]
    split
    · simp
    · have := setL_len x d r; simp; omega

structure DiskAt (H : Hp) (id ib : Nat) (bs : List (List Int)) (bu wr : Int) : Prop where
  d : H[id]? = some (.dict [(Str.ofString "blocks", .mref ib), (Str.ofString "budget", .int bu), (Str.ofString "writes", .int wr)])
  b : H[ib]? = some (.lst (bL bs))
  ne : id ≠ ib

theorem hset_eq {H : Hp} {i : Nat} {o o' : AObj} (h : H[i]? = some o) : (H.set i o')[i]? = some o' := by
  rw [List.getElem?_set_self]; exact (List.getElem?_eq_some_iff.mp h).1
theorem hset_ne {H : Hp} {i k : Nat} {o' : AObj} (h : i ≠ k) : (H.set i o')[k]? = H[k]? := List.getElem?_set_ne h

theorem cw_read {w : World} {s : Shared} (B : Bs w s) (j : Nat) {id ib : Nat} {bs : List (List Int)} {bu wr i : Int} {b : List Int} {H : Hp} {Q : D → Hp → Prop} {X : Value → Hp → Prop} (h : DiskAt H id ib bs bu wr) (h0 : 0 ≤ i) (hi : bs[i.toNat]? = some b) (hq : Q (.lst (iL b)) H) :
    CW (mkG w s) (j + 1) 148 [.inst 163 id, .int i] H Q X := by
  refine fn_cwK (B.pok j) 148 [Str.ofString "self", Str.ofString "i"] (by kernel_rfl) (bind2 fun a b => by kernel_rfl) rfl ?_
  conv in (bodyAt _ _) => whnf
  conv in (Scope.names _) => whnf
  repeat k_all
  refine ex_attr h.d rfl rfl ?_
  repeat k_all
  refine ⟨.lst (iL b), ?_, ?_⟩
  · rw [view_m h.b]
    show (if 0 ≤ i then (bL bs)[i.toNat]? else none) = _
    rw [if_pos h0, bL_get, hi]; rfl
  repeat k_all
  exact hq

theorem cw_write {w : World} {s : Shared} (B : Bs w s) (j : Nat) {id ib : Nat} {bs : List (List Int)} {bu wr i : Int} {b : List Int} {H : Hp} {Q : D → Hp → Prop} {X : Value → Hp → Prop} (h : DiskAt H id ib bs bu wr) (h0 : 0 ≤ i) (hi : i.toNat < bs.length)
    (hx : bu = 0 → X (.ref 31) H) (hq : bu ≠ 0 → ∀ H', DiskAt H' id ib (bs.set i.toNat b) (if 0 < bu then bu - 1 else bu) (wr + 1) → H'.length = H.length → (∀ k, k ≠ id → k ≠ ib → H'[k]? = H[k]?) → Q .none H') :
    CW (mkG w s) (j + 1) 155 [.inst 163 id, .int i, .lst (iL b)] H Q X := by
  refine fn_cwK (B.pok j) 155 [Str.ofString "self", Str.ofString "i", Str.ofString "block"] (by kernel_rfl) (bind3 fun a b c => by kernel_rfl) rfl ?_
  conv in (bodyAt _ _) => whnf
  conv in (Scope.names _) => whnf
  repeat k_all
  refine ex_attr h.d rfl rfl ?_
  repeat k_all
  by_cases c0 : bu = 0
  · have f : (bu == (0 : Int)) = true := beq_iff_eq.mpr c0
    repeat k_all
    exact hx c0
  · have f : (bu == (0 : Int)) = false := beq_eq_false_iff_ne.mpr c0
    repeat k_all
    refine ex_attr h.d rfl rfl ?_
    repeat k_all
    refine ⟨_, h.b, h0, by rw [bL_len]; exact hi, ?_⟩
    rw [bL_set]
    have e1 : (H.set ib (.lst (bL (bs.set i.toNat b))))[id]? = some (.dict [(Str.ofString "blocks", .mref ib), (Str.ofString "budget", .int bu), (Str.ofString "writes", .int wr)]) := by rw [hset_ne (Ne.symm h.ne)]; exact h.d
    have e2 : (H.set ib (.lst (bL (bs.set i.toNat b))))[ib]? = some (.lst (bL (bs.set i.toNat b))) := hset_eq h.b
    repeat k_all
    refine ex_attr e1 rfl rfl ?_
    repeat k_all
    refine ⟨rfl, _, e1, by simp, ?_⟩
    have e3 := hset_eq (o' := .dict (setL (Str.ofString "writes") (.int (wr + 1)) [(Str.ofString "blocks", .mref ib), (Str.ofString "budget", .int bu), (Str.ofString "writes", .int wr)])) e1
    repeat k_all
    refine ex_attr e3 rfl rfl ?_
    repeat k_all
    by_cases c1 : 0 < bu
    · have f1 := decide_eq_true c1
      repeat k_all
      refine ex_attr e3 rfl rfl ?_
      repeat k_all
      refine ⟨rfl, _, e3, Nat.le_trans (setL_len _ _ _) (by simp), ?_⟩
      repeat k_all
      refine hq c0 _ ⟨?_, ?_, h.ne⟩ (by simp) (fun k k1 k2 => ?_)
      · rw [hset_eq e3, if_pos c1]; rfl
      · rw [hset_ne h.ne, hset_ne h.ne]; exact e2
      · rw [hset_ne (Ne.symm k1), hset_ne (Ne.symm k1), hset_ne (Ne.symm k2)]
    · have f1 := decide_eq_false c1
      repeat k_all
      refine hq c0 _ ⟨?_, ?_, h.ne⟩ (by simp) (fun k k1 k2 => ?_)
      · rw [e3, if_neg c1]; rfl
      · rw [hset_ne h.ne]; exact e2
      · rw [hset_ne (Ne.symm k1), hset_ne (Ne.symm k2)]

theorem belows_iL (n : Nat) : ∀ b : List Int, belows n (iL b) = true
  | [] => rfl
  | x :: b => belows_iL n b
theorem below_iL (n : Nat) (b : List Int) : below n (.lst (iL b)) = true := belows_iL n b

theorem cw_image {w : World} {s : Shared} (B : Bs w s) (j : Nat) {id ib : Nat} {bs : List (List Int)} {bu wr : Int} {H : Hp} {Q : D → Hp → Prop} {X : Value → Hp → Prop} (h : DiskAt H id ib bs bu wr) (hn : bs.length ≤ 1000) (hq : Q (.lst (bL bs)) H) :
    CW (mkG w s) (j + 1) 160 [.inst 163 id] H Q X := by
  refine fn_cwK (B.pok j) 160 [Str.ofString "self"] (by kernel_rfl) (bind1 fun a => by kernel_rfl) rfl ?_
  conv in (bodyAt _ _) => whnf
  conv in (Scope.names _) => whnf
  repeat k_all
  refine ex_attr h.d rfl rfl ?_
  refine ⟨bL bs, by rw [view_m h.b]; rfl, by rw [bL_len]; omega, ?_⟩
  refine compW_map (fun x => x) (fun x hx a K hk => ?_) (fun x hx a K hk => ?_) (fun x hx => ?_) ?_
  · repeat k_all
    exact hk
  · obtain ⟨b, _, rfl⟩ := List.mem_map.mp hx
    repeat k_all
    exact hk
  · obtain ⟨b, _, rfl⟩ := List.mem_map.mp hx
    exact below_iL _ _
  · rw [List.map_id']; exact hq

/-- a new Disk -/
theorem cw_Disk {w : World} {s : Shared} (B : Bs w s) (j : Nat) {bs : List (List Int)} {bu : Int} {H : Hp} {Q : D → Hp → Prop} {X : Value → Hp → Prop} (hn : bs.length ≤ 1000)
    (hq : ∀ H', DiskAt H' H.length (H.length + 1) bs bu 0 → H'.length = H.length + 2 → (∀ k, k < H.length → H'[k]? = H[k]?) → Q (.inst 163 H.length) H') :
    CW (mkG w s) (j + 2) 163 [.lst (bL bs), .int bu] H Q X := by
  refine cls_cw (k := j + 1) (fI := 141) (B.pok (j + 1)) (by kernel_rfl) (by kernel_rfl) (by kernel_rfl) ?_
  refine fn_cwK (B.pok j) 141 [Str.ofString "self", Str.ofString "image", Str.ofString "budget"] (by kernel_rfl) (bind3 fun a b c => by kernel_rfl) rfl ?_
  conv in (bodyAt _ _) => whnf
  conv in (Scope.names _) => whnf
  repeat k_all
  refine ⟨by rw [bL_len]; omega, ?_⟩
  refine compW_map (fun x => x) (fun x hx a K hk => ?_) (fun x hx a K hk => ?_) (fun x hx => ?_) ?_
  · repeat k_all
    exact hk
  · obtain ⟨b, _, rfl⟩ := List.mem_map.mp hx
    repeat k_all
    exact hk
  · obtain ⟨b, _, rfl⟩ := List.mem_map.mp hx
    exact below_iL _ _
  rw [List.map_id', List.nil_append]
  have e0 : (H ++ [AObj.dict []] ++ [AObj.lst (bL bs)])[H.length]? = some (.dict []) := by simp
  have e1 : (H ++ [AObj.dict []] ++ [AObj.lst (bL bs)])[H.length + 1]? = some (.lst (bL bs)) := by simp
  repeat k_all
  refine ⟨rfl, _, e0, by simp, ?_⟩
  have e2 := hset_eq (o' := .dict (setL (Str.ofString "blocks") (.mref (H ++ [AObj.dict []]).length) [])) e0
  repeat k_all
  refine ⟨rfl, _, e2, Nat.le_trans (setL_len _ _ _) (by simp), ?_⟩
  have e3 := hset_eq (o' := .dict (setL (Str.ofString "budget") (.int bu) (setL (Str.ofString "blocks") (.mref (H ++ [AObj.dict []]).length) []))) e2
  repeat k_all
  refine ⟨rfl, _, e3, Nat.le_trans (setL_len _ _ _) (Nat.le_trans (Nat.succ_le_succ (setL_len _ _ _)) (by simp [setL])), ?_⟩
  have e4 := hset_eq (o' := .dict (setL (Str.ofString "writes") (.int 0) (setL (Str.ofString "budget") (.int bu) (setL (Str.ofString "blocks") (.mref (H ++ [AObj.dict []]).length) [])))) e3
  repeat k_all
  refine ⟨rfl, hq _ ⟨?_, ?_, by omega⟩ (by simp) (fun k hk => ?_)⟩
  · rw [e4]
    have : (H ++ [AObj.dict []]).length = H.length + 1 := by simp
    rw [this]
    rfl
  · rw [hset_ne (by omega), hset_ne (by omega), hset_ne (by omega)]; exact e1
  · rw [hset_ne (by omega), hset_ne (by omega), hset_ne (by omega), List.append_assoc, List.getElem?_append_left hk]

structure VaultAt (H : Hp) (iv id is : Nat) (n m : Int) (st : List (Int × List Int)) (dead : Bool) : Prop where
  v : H[iv]? = some (.dict [(Str.ofString "disk", .inst 163 id), (Str.ofString "slots", .int n), (Str.ofString "log_size", .int m), (Str.ofString "staged", .mref is), (Str.ofString "dead", .bool dead)])
  s : H[is]? = some (.lst (st.map fun q => .tup [.int q.1, .lst (iL q.2)]))
  ne : iv ≠ is

/-- a new Vault -/
theorem cw_Vault {w : World} {s : Shared} (B : Bs w s) (j : Nat) {id : Nat} {n m : Int} {H : Hp} {Q : D → Hp → Prop} {X : Value → Hp → Prop}
    (hq : ∀ H', VaultAt H' H.length id (H.length + 1) n m [] false → H'.length = H.length + 2 → (∀ k, k < H.length → H'[k]? = H[k]?) → Q (.inst 282 H.length) H') :
    CW (mkG w s) (j + 2) 282 [.inst 163 id, .int n, .int m] H Q X := by
  refine cls_cw (k := j + 1) (fI := 181) (B.pok (j + 1)) (by kernel_rfl) (by kernel_rfl) (by kernel_rfl) ?_
  refine fn_cwK (B.pok j) 181 [Str.ofString "self", Str.ofString "disk", Str.ofString "slots", Str.ofString "log_size"] (by kernel_rfl) (bind4 fun a b c d => by kernel_rfl) rfl ?_
  conv in (bodyAt _ _) => whnf
  conv in (Scope.names _) => whnf
  have e0 : (H ++ [AObj.dict []])[H.length]? = some (.dict []) := by simp
  repeat k_all
  refine ⟨rfl, _, e0, by simp, ?_⟩
  have e1 := hset_eq (o' := .dict (setL (Str.ofString "disk") (.inst 163 id) [])) e0
  repeat k_all
  refine ⟨rfl, _, e1, Nat.le_trans (setL_len _ _ _) (by simp), ?_⟩
  generalize hF2 : setL (Str.ofString "slots") (D.int n) (setL (Str.ofString "disk") (.inst 163 id) []) = F2
  have e2 := hset_eq (o' := .dict F2) e1
  repeat k_all
  refine ⟨rfl, _, e2, by rw [← hF2]; exact Nat.le_trans (setL_len _ _ _) (Nat.le_trans (Nat.succ_le_succ (setL_len _ _ _)) (by simp)), ?_⟩
  generalize hF3 : setL (Str.ofString "log_size") (D.int m) F2 = F3
  have e3 := hset_eq (o' := .dict F3) e2
  have l3 : F3.length ≤ 10 := by
    rw [← hF3]
    refine Nat.le_trans (setL_len _ _ _) ?_
    rw [← hF2]
    exact Nat.succ_le_of_lt (Nat.lt_of_le_of_lt (setL_len _ _ _) (Nat.lt_of_le_of_lt (Nat.succ_le_succ (setL_len _ _ _)) (by simp)))
  repeat k_all
  generalize hH3 : (((H ++ [AObj.dict []]).set H.length (AObj.dict (setL (Str.ofString "disk") (D.inst 163 id) []))).set H.length (AObj.dict F2)).set H.length (AObj.dict F3) = H3 at e3 ⊢
  have hl3 : H3.length = H.length + 1 := by rw [← hH3]; simp
  have e4 : (H3 ++ [AObj.lst []])[H.length]? = some (.dict F3) := by rw [List.getElem?_append_left (by omega)]; exact e3
  have e5 : (H3 ++ [AObj.lst []])[H.length + 1]? = some (.lst []) := by rw [← hl3]; simp
  refine ⟨rfl, _, e4, by omega, ?_⟩
  generalize hF4 : setL (Str.ofString "staged") (D.mref H3.length) F3 = F4
  have l4 : F4.length ≤ 20 := by rw [← hF4]; exact Nat.le_trans (setL_len _ _ _) (by omega)
  have e6 := hset_eq (o' := .dict F4) e4
  repeat k_all
  refine ⟨rfl, _, e6, by omega, ?_⟩
  have e7 := hset_eq (o' := .dict (setL (Str.ofString "dead") (.bool false) F4)) e6
  repeat k_all
  refine ⟨rfl, hq _ ⟨?_, ?_, by omega⟩ (by simp; omega) (fun k hk => ?_)⟩
  · rw [e7, ← hF4, ← hF3, ← hF2, hl3]
    rfl
  · rw [hset_ne (by omega), hset_ne (by omega)]; exact e5
  · rw [hset_ne (by omega), hset_ne (by omega), List.getElem?_append_left (by omega), ← hH3, hset_ne (by omega), hset_ne (by omega), hset_ne (by omega), List.getElem?_append_left hk]

noncomputable def pL (st : List (Int × List Int)) : List D := st.map fun q => .tup [.int q.1, .lst (iL q.2)]
theorem pL_at {st : List (Int × List Int)} {k : Nat} {d : D} (h : (pL st)[k]? = some d) : ∃ q, d = .tup [.int q.1, .lst (iL q.2)] ∧ st[k]? = some q := by
  unfold pL at h
  rw [List.getElem?_map] at h
  cases hq : st[k]? with
  | none => rw [hq] at h; cases h
  | some q => rw [hq] at h; cases h; exact ⟨q, rfl, rfl⟩
theorem pL_len (st : List (Int × List Int)) : (pL st).length = st.length := by simp [pL]

theorem cw_home {w : World} {s : Shared} (B : Bs w s) (j : Nat) {iv id is : Nat} {n m i : Int} {st : List (Int × List Int)} {dead : Bool} {H : Hp} {Q : D → Hp → Prop} {X : Value → Hp → Prop} (h : VaultAt H iv id is n m st dead) (hq : Q (.int (1 + m + i)) H) :
    CW (mkG w s) (j + 1) 188 [.inst 282 iv, .int i] H Q X := by
  refine fn_cwK (B.pok j) 188 [Str.ofString "self", Str.ofString "i"] (by kernel_rfl) (bind2 fun a b => by kernel_rfl) rfl ?_
  conv in (bodyAt _ _) => whnf
  conv in (Scope.names _) => whnf
  repeat k_all
  refine ex_attr h.v rfl rfl ?_
  repeat k_all
  exact hq

theorem cw_read_slot {w : World} {s : Shared} (B : Bs w s) (j : Nat) {iv id is ib : Nat} {n m i bu wr : Int} {st : List (Int × List Int)} {dead : Bool} {bs : List (List Int)} {b : List Int} {H : Hp} {Q : D → Hp → Prop} {X : Value → Hp → Prop} (h : VaultAt H iv id is n m st dead) (hd : DiskAt H id ib bs bu wr)
    (h0 : 0 ≤ 1 + m + i) (hb : bs[(1 + m + i).toNat]? = some b)
    (hs : ∀ q, st.find? (fun q => q.1 == i) = some q → (∀ r, decodeSlot q.2 = some r → Q (.tup [.bool r.1, .int r.2.1, .int r.2.2]) H) ∧ (decodeSlot q.2 = none → X (.ref 44) H))
    (hn : st.find? (fun q => q.1 == i) = none → (∀ r, decodeSlot b = some r → Q (.tup [.bool r.1, .int r.2.1, .int r.2.2]) H) ∧ (decodeSlot b = none → X (.ref 57) H)) :
    CW (mkG w s) (j + 3) 216 [.inst 282 iv, .int i] H Q X := by
  refine fn_cwK (B.pok (j + 2)) 216 [Str.ofString "self", Str.ofString "i"] (by kernel_rfl) (bind2 fun a b => by kernel_rfl) rfl ?_
  conv in (bodyAt _ _) => whnf
  conv in (Scope.names _) => whnf
  repeat k_all
  refine ex_attr h.v rfl rfl ?_
  refine ⟨pL st, by rw [view_m h.s]; rfl, ?_⟩
  refine forW_rule (fun k loc H' => (loc = [(Str.ofString "self", .inst 282 iv), (Str.ofString "i", .int i)] ∨ ∃ d, loc = [(Str.ofString "self", .inst 282 iv), (Str.ofString "i", .int i), (Str.ofString "p", d)]) ∧ H' = H ∧ (st.take k).find? (fun q => q.1 == i) = none) ?_ ?_ ⟨.inl rfl, rfl, rfl⟩
  · intro k d loc H' K hi hI kn kc kb kr
    obtain ⟨hloc, rfl, hf⟩ := hI
    obtain ⟨q, rfl, hq⟩ := pL_at hi
    refine ⟨[(Str.ofString "self", .inst 282 iv), (Str.ofString "i", .int i), (Str.ofString "p", .tup [.int q.1, .lst (iL q.2)])], ?_, ?_⟩
    · rcases hloc with rfl | ⟨d, rfl⟩ <;> rfl
    have hlt : k < st.length := (List.getElem?_eq_some_iff.mp hq).1
    have htk : st.take (k + 1) = st.take k ++ [q] := by rw [List.take_add_one, hq]; rfl
    by_cases c : q.1 = i
    · have f : (q.1 == i) = true := beq_iff_eq.mpr c
      have hfind : st.find? (fun q => q.1 == i) = some q := by
        rw [← List.take_append_drop (k + 1) st, htk, List.find?_append, List.find?_append, hf]
        simp [f]
      repeat k_all
      exact cw_decode_slot B j (fun r hr => kr _ _ _ ((hs q hfind).1 r hr)) (fun hr => (hs q hfind).2 hr)
    · have f : (q.1 == i) = false := beq_eq_false_iff_ne.mpr c
      repeat k_all
      refine kn _ _ rfl ⟨.inr ⟨_, rfl⟩, rfl, ?_⟩
      rw [htk, List.find?_append, hf]
      simp [f]
  · intro loc H' hI
    obtain ⟨hloc, rfl, hf⟩ := hI
    rw [show (pL st).length = st.length from pL_len st, List.take_length] at hf
    obtain ⟨g1, g2⟩ := hn hf
    rcases hloc with rfl | ⟨d, rfl⟩
    all_goals (
      repeat k_all
      refine ex_attr h.v rfl rfl ?_
      dsimp only
      refine ⟨⟨_, hd.d, rfl⟩, _, rfl, ?_⟩
      repeat k_all
      refine ⟨⟨_, h.v, rfl⟩, _, rfl, ?_⟩
      repeat k_all
      refine cw_home B (j + 1) h ?_
      repeat k_all
      refine cw_read B (j + 1) hd h0 hb ?_
      repeat k_all
      refine cw_decode_slot B j (fun r hr => ?_) (fun hr => ?_)
      · repeat k_all
        exact g1 r hr
      · repeat k_all
        exact g2 hr)

noncomputable def rngL (n : Nat) : List D := (List.range n).map fun (i : Nat) => D.int i
theorem rng_at {n k : Nat} {d : D} (h : (rngL n)[k]? = some d) : d = .int (k : Int) ∧ k < n := by
  unfold rngL at h
  rw [List.getElem?_map] at h
  cases hq : (List.range n)[k]? with
  | none => rw [hq] at h; cases h
  | some i =>
    rw [hq] at h; cases h
    obtain ⟨h1, h2⟩ := List.getElem?_eq_some_iff.mp hq
    rw [List.getElem_range] at h2
    subst h2
    exact ⟨rfl, by simpa using h1⟩
theorem rngL_len (n : Nat) : (rngL n).length = n := by simp [rngL]
section
variable {H : Hp} {Q : D → Prop}
theorem ex_range {n : Nat} (h : n ≤ 1000000) (q : Q (.rng n)) : ∃ d, tyD "range" (List.map (view H) [.int (n : Int)]) = some d ∧ Q d :=
  ⟨.rng n, by
    show (if small (n : Int) then some (D.rng ((n : Int).toNat)) else none) = _
    rw [if_pos (by unfold small; rw [decide_eq_true_eq]; omega)]; rfl, q⟩
theorem ex_pAt {i k : Nat} {st : List (Int × List Int)} {p : Int × List Int} (hs : H[i]? = some (.lst (pL st))) (hk : st[k]? = some p) (q : Q (.tup [.int p.1, .lst (iL p.2)])) : ∃ d, idxD (view H (.mref i)) (.int (k : Int)) = some d ∧ Q d := by
  refine ⟨_, ?_, q⟩
  rw [view_m hs]
  show (if (0 : Int) ≤ k then (pL st)[((k : Int)).toNat]? else none) = _
  rw [if_pos (by omega), Int.toNat_natCast]
  unfold pL
  rw [List.getElem?_map, hk]; rfl
end

noncomputable def stageP (st : List (Int × List Int)) (i : Int) (b : List Int) : List (Int × List Int) := match st.findIdx? (fun q => q.1 == i) with
  | some k => st.set k (i, b)
  | none => st ++ [(i, b)]

theorem pL_set (st : List (Int × List Int)) (k : Nat) (i : Int) (b : List Int) : (pL st).set k (.tup [.int i, .lst (iL b)]) = pL (st.set k (i, b)) := by simp [pL, List.map_set]

theorem cw_stage {w : World} {s : Shared} (B : Bs w s) (j : Nat) {iv id is : Nat} {n m i : Int} {st : List (Int × List Int)} {dead : Bool} {b : List Int} {H : Hp} {Q : D → Hp → Prop} {X : Value → Hp → Prop} (h : VaultAt H iv id is n m st dead) (hl : st.length ≤ 1000)
    (hx : st.findIdx? (fun q => q.1 == i) = none → m ≤ st.length → X (.ref 70) H)
    (hq : (st.findIdx? (fun q => q.1 == i) = none → (st.length : Int) < m) → ∀ H', VaultAt H' iv id is n m (stageP st i b) dead → H'.length = H.length → (∀ k, k ≠ is → H'[k]? = H[k]?) → Q .none H') :
    CW (mkG w s) (j + 1) 237 [.inst 282 iv, .int i, .lst (iL b)] H Q X := by
  have hs : H[is]? = some (.lst (pL st)) := h.s
  have dn : ∀ st', VaultAt (H.set is (.lst (pL st'))) iv id is n m st' dead := fun st' => ⟨by rw [hset_ne (Ne.symm h.ne)]; exact h.v, hset_eq hs, h.ne⟩
  have vs : view H (.mref is) = .lst (pL st) := view_m hs
  refine fn_cwK (B.pok j) 237 [Str.ofString "self", Str.ofString "i", Str.ofString "block"] (by kernel_rfl) (bind3 fun a b c => by kernel_rfl) rfl ?_
  conv in (bodyAt _ _) => whnf
  conv in (Scope.names _) => whnf
  repeat k_all
  refine ex_attr h.v rfl rfl ?_
  repeat k_all
  refine ex_len vs ?_
  rw [pL_len]
  repeat k_all
  refine ex_range (by omega) ?_
  refine ⟨rngL st.length, rfl, ?_⟩
  refine forW_rule (fun k loc H' => (loc = [(Str.ofString "self", .inst 282 iv), (Str.ofString "i", .int i), (Str.ofString "block", .lst (iL b))] ∨ ∃ d, loc = [(Str.ofString "self", .inst 282 iv), (Str.ofString "i", .int i), (Str.ofString "block", .lst (iL b)), (Str.ofString "j", d)]) ∧ H' = H ∧ (st.take k).findIdx? (fun q => q.1 == i) = none) ?_ ?_ ⟨.inl rfl, rfl, rfl⟩
  · intro k d loc H' K hi hI kn kc kb kr
    obtain ⟨hloc, rfl, hf⟩ := hI
    obtain ⟨rfl, hk⟩ := rng_at hi
    refine ⟨[(Str.ofString "self", .inst 282 iv), (Str.ofString "i", .int i), (Str.ofString "block", .lst (iL b)), (Str.ofString "j", .int (k : Int))], ?_, ?_⟩
    · rcases hloc with rfl | ⟨d, rfl⟩ <;> rfl
    have hg : st[k]? = some st[k] := List.getElem?_eq_getElem hk
    generalize st[k] = q at hg
    have htk : st.take (k + 1) = st.take k ++ [q] := by rw [List.take_add_one, hg]; rfl
    by_cases c : q.1 = i
    · have f : (q.1 == i) = true := beq_iff_eq.mpr c
      have hfind : st.findIdx? (fun q => q.1 == i) = some k := by
        rw [← List.take_append_drop (k + 1) st, htk, List.findIdx?_append, List.findIdx?_append, hf]
        simp [f, List.findIdx?_cons]
        omega
      repeat k_all
      refine ex_attr h.v rfl rfl ?_
      repeat k_all
      refine ex_pAt hs hg ?_
      repeat k_all
      refine ex_attr h.v rfl rfl ?_
      repeat k_all
      refine ⟨_, hs, by omega, by rw [pL_len]; omega, ?_⟩
      rw [Int.toNat_natCast, pL_set]
      repeat k_all
      refine kr _ _ _ ?_
      refine hq (fun z => by rw [hfind] at z; cases z) _ ?_ (by simp) (fun k hk => hset_ne (Ne.symm hk))
      unfold stageP
      rw [hfind]
      exact dn _
    · have f : (q.1 == i) = false := beq_eq_false_iff_ne.mpr c
      repeat k_all
      refine ex_attr h.v rfl rfl ?_
      repeat k_all
      refine ex_pAt hs hg ?_
      repeat k_all
      refine kn _ _ trivial ⟨.inr ⟨_, rfl⟩, rfl, ?_⟩
      rw [htk, List.findIdx?_append, hf]
      simp [f, List.findIdx?_cons]
  · intro loc H' hI
    obtain ⟨hloc, rfl, hf⟩ := hI
    rw [rngL_len, List.take_length] at hf
    rcases hloc with rfl | ⟨d, rfl⟩
    all_goals (
      repeat k_all
      refine ex_attr h.v rfl rfl ?_
      repeat k_all
      refine ex_len vs ?_
      rw [pL_len]
      repeat k_all
      refine ex_attr h.v rfl rfl ?_
      repeat k_all
      by_cases c : m ≤ (st.length : Int)
      · have f := decide_eq_true c
        repeat k_all
        exact hx hf c
      · have f := decide_eq_false c
        repeat k_all
        refine ex_attr h.v rfl rfl ?_
        dsimp only
        refine ⟨rfl, ⟨_, hs⟩, rfl, ?_⟩
        repeat k_all
        refine ⟨_, _, hs, rfl, by rw [pL_len]; omega, ?_⟩
        repeat k_all
        refine hq (fun _ => by omega) _ ?_ (by simp) (fun k hk => hset_ne (Ne.symm hk))
        unfold stageP
        rw [hf]
        have e : pL st ++ [.tup [.int i, .lst (iL b)]] = pL (st ++ [(i, b)]) := by simp [pL]
        rw [e]
        exact dn _)

noncomputable def app (bs : List (List Int)) (ops : List (Nat × List Int)) : List (List Int) := ops.foldl (fun bs o => bs.set o.1 o.2) bs
theorem app_len (bs : List (List Int)) : ∀ (ops : List (Nat × List Int)), (app bs ops).length = bs.length := by
  intro ops
  induction ops generalizing bs with
  | nil => rfl
  | cons o r ih => unfold app at ih ⊢; rw [List.foldl_cons, ih]; simp
theorem app_app (bs : List (List Int)) (a b : List (Nat × List Int)) : app bs (a ++ b) = app (app bs a) b := by unfold app; rw [List.foldl_append]
theorem app_take {bs : List (List Int)} {ops : List (Nat × List Int)} {k : Nat} {o : Nat × List Int} (h : ops[k]? = some o) : app bs (ops.take (k + 1)) = (app bs (ops.take k)).set o.1 o.2 := by
  rw [List.take_add_one, h, app_app]; rfl
theorem app_get (bs : List (List Int)) (n : Nat) : ∀ (ops : List (Nat × List Int)), (∀ o ∈ ops, o.1 ≠ n) → (app bs ops)[n]? = bs[n]? := by
  intro ops
  induction ops generalizing bs with
  | nil => intro _; rfl
  | cons o r ih =>
    intro h
    unfold app at ih ⊢
    rw [List.foldl_cons, ih _ fun p hp => h p (.tail _ hp), List.getElem?_set_ne (h o (.head _))]

noncomputable def Same (id ib : Nat) (H H' : Hp) : Prop := H'.length = H.length ∧ ∀ k, k ≠ id → k ≠ ib → H'[k]? = H[k]?
theorem Same.refl (id ib : Nat) (H : Hp) : Same id ib H H := ⟨rfl, fun _ _ _ => rfl⟩
theorem Same.trans {id ib : Nat} {H H' H'' : Hp} (a : Same id ib H H') (b : Same id ib H' H'') : Same id ib H H'' := ⟨b.1.trans a.1, fun k h1 h2 => (b.2 k h1 h2).trans (a.2 k h1 h2)⟩

theorem write_step {w : World} {s : Shared} (B : Bs w s) (j : Nat) {id ib k : Nat} {bs : List (List Int)} {bu wr i : Int} {b : List Int} {OPS : List (Nat × List Int)} {H : Hp} {Q : D → Hp → Prop} {X : Value → Hp → Prop} (h : DiskAt H id ib (app bs (OPS.take k)) (bu - k) (wr + k)) (hk : OPS[k]? = some (i.toNat, b)) (h0 : 0 ≤ i) (hi : i.toNat < bs.length) (hb : (k : Int) ≤ bu)
    (hx : bu = k → X (.ref 31) H) (hq : (k : Int) + 1 ≤ bu → ∀ H', DiskAt H' id ib (app bs (OPS.take (k + 1))) (bu - ((k + 1 : Nat) : Int)) (wr + ((k + 1 : Nat) : Int)) → Same id ib H H' → Q .none H') :
    CW (mkG w s) (j + 1) 155 [.inst 163 id, .int i, .lst (iL b)] H Q X := by
  refine cw_write B j h h0 (by rw [app_len]; exact hi) (fun z => hx (by omega)) (fun z H' hd hl hs => hq (by omega) H' ?_ ⟨hl, hs⟩)
  rw [app_take hk]
  have e1 : (if 0 < bu - (k : Int) then bu - k - 1 else bu - k) = bu - ((k + 1 : Nat) : Int) := by rw [if_pos (by omega)]; omega
  have e2 : wr + (k : Int) + 1 = wr + ((k + 1 : Nat) : Int) := by omega
  rw [e1, e2] at hd
  exact hd

/-- the writes of install -/
noncomputable def homeOps (bs : List (List Int)) (m : Int) (ts : List Int) : List (Nat × List Int) := (List.range ts.length).map fun k => ((1 + m + ts.getD k 0).toNat, bs.getD (1 + k) [])
noncomputable def instOps (bs : List (List Int)) (m : Int) (ts : List Int) : List (Nat × List Int) := homeOps bs m ts ++ [(0, sealedP [0])]
theorem homeOps_len (bs : List (List Int)) (m : Int) (ts : List Int) : (homeOps bs m ts).length = ts.length := by simp [homeOps]
theorem instOps_len (bs : List (List Int)) (m : Int) (ts : List Int) : (instOps bs m ts).length = ts.length + 1 := by simp [instOps, homeOps]
theorem instOps_at {bs : List (List Int)} {m : Int} {ts : List Int} {k : Nat} {t : Int} {b : List Int} (hk : ts[k]? = some t) (hb : bs[1 + k]? = some b) : (instOps bs m ts)[k]? = some ((1 + m + t).toNat, b) := by
  have hl := (List.getElem?_eq_some_iff.mp hk).1
  unfold instOps homeOps
  rw [List.getElem?_append_left (by simpa using hl), List.getElem?_map, List.getElem?_range hl]
  simp only [Option.map_some, List.getD_eq_getElem?_getD, hk, hb, Option.getD_some]
theorem instOps_last (bs : List (List Int)) (m : Int) (ts : List Int) : (instOps bs m ts)[ts.length]? = some (0, sealedP [0]) := by
  unfold instOps
  rw [← homeOps_len bs m ts, List.getElem?_append_right (Nat.le_refl _)]
  simp

theorem cw_install {w : World} {s : Shared} (B : Bs w s) (j : Nat) {iv id is ib it : Nat} {n m bu wr : Int} {st : List (Int × List Int)} {dead : Bool} {bs : List (List Int)} {ts : List Int} {H : Hp} {Q : D → Hp → Prop} {X : Value → Hp → Prop} (h : VaultAt H iv id is n m st dead) (hd : DiskAt H id ib bs bu wr)
    (hv : iv ≠ id ∧ iv ≠ ib ∧ is ≠ id ∧ is ≠ ib ∧ it ≠ id ∧ it ≠ ib) (ht : H[it]? = some (.lst (iL ts))) (hm : 0 ≤ m) (hts : ∀ t ∈ ts, 0 ≤ t ∧ (1 + m + t).toNat < bs.length) (hlog : (ts.length : Int) ≤ m) (hbs : m + 1 ≤ bs.length) (hn : ts.length ≤ 1000) (hbu : 0 ≤ bu)
    (hx : bu < (instOps bs m ts).length → ∀ H', DiskAt H' id ib (app bs ((instOps bs m ts).take bu.toNat)) 0 (wr + bu) → Same id ib H H' → X (.ref 31) H')
    (hq : ((instOps bs m ts).length : Int) ≤ bu → ∀ H', DiskAt H' id ib (app bs (instOps bs m ts)) (bu - (instOps bs m ts).length) (wr + (instOps bs m ts).length) → Same id ib H H' → Q .none H') :
    CW (mkG w s) (j + 3) 202 [.inst 282 iv, .mref it] H Q X := by
  have vt : ∀ {H'}, Same id ib H H' → VaultAt H' iv id is n m st dead ∧ H'[it]? = some (.lst (iL ts)) := fun {H'} sm =>
    ⟨⟨(sm.2 iv hv.1 hv.2.1).trans h.v, (sm.2 is hv.2.2.1 hv.2.2.2.1).trans h.s, h.ne⟩, (sm.2 it hv.2.2.2.2.1 hv.2.2.2.2.2).trans ht⟩
  have stop : ∀ {k : Nat} {H'}, k ≤ ts.length → bu = k → DiskAt H' id ib (app bs ((instOps bs m ts).take k)) (bu - k) (wr + k) → Same id ib H H' → X (.ref 31) H' := fun {k H'} hk e hd' sm => by
    refine hx (by rw [instOps_len]; omega) H' ?_ sm
    have e1 : bu.toNat = k := by omega
    have e2 : bu - (k : Int) = 0 := by omega
    rw [e1]
    rw [e2] at hd'
    rw [e]
    exact hd'
  refine fn_cwK (B.pok (j + 2)) 202 [Str.ofString "self", Str.ofString "targets"] (by kernel_rfl) (bind2 fun a b => by kernel_rfl) rfl ?_
  conv in (bodyAt _ _) => whnf
  conv in (Scope.names _) => whnf
  repeat k_all
  refine ex_len (view_m ht) ?_
  rw [iL_len]
  repeat k_all
  refine ex_range (by omega) ?_
  refine ⟨rngL ts.length, rfl, ?_⟩
  refine forW_rule (fun k loc H' => (loc = [(Str.ofString "self", .inst 282 iv), (Str.ofString "targets", .mref it)] ∨ ∃ d, loc = [(Str.ofString "self", .inst 282 iv), (Str.ofString "targets", .mref it), (Str.ofString "j", d)]) ∧ (k : Int) ≤ bu ∧ DiskAt H' id ib (app bs ((instOps bs m ts).take k)) (bu - k) (wr + k) ∧ Same id ib H H') ?_ ?_
    ⟨.inl rfl, by omega, by simpa [app] using hd, Same.refl _ _ _⟩
  · intro k d loc H' K hi hI kn kc kb kr
    obtain ⟨hloc, hkb, hdk, sm⟩ := hI
    obtain ⟨rfl, hk⟩ := rng_at hi
    refine ⟨[(Str.ofString "self", .inst 282 iv), (Str.ofString "targets", .mref it), (Str.ofString "j", .int (k : Int))], ?_, ?_⟩
    · rcases hloc with rfl | ⟨d, rfl⟩ <;> rfl
    obtain ⟨hV, hT⟩ := vt sm
    have hg : ts[k]? = some ts[k] := List.getElem?_eq_getElem hk
    have htk := hts _ (List.getElem_mem hk)
    generalize ts[k] = t at hg htk
    have hbk : bs[1 + k]? = some (bs[1 + k]'(by omega)) := List.getElem?_eq_getElem _
    generalize (bs[1 + k]'(by omega)) = b at hbk
    have hrd : (app bs ((instOps bs m ts).take k))[(1 + (k : Int)).toNat]? = some b := by
      rw [show (1 + (k : Int)).toNat = 1 + k by omega, app_get, hbk]
      intro o ho
      obtain ⟨q, hq2⟩ := List.mem_iff_getElem?.mp ho
      rw [List.getElem?_take] at hq2
      split at hq2
      · rename_i hqk
        have hqt : ts[q]? = some ts[q] := List.getElem?_eq_getElem (by omega)
        have hq3 := hts _ (List.getElem_mem (show q < ts.length by omega))
        have hqb : bs[1 + q]? = some (bs[1 + q]'(by omega)) := List.getElem?_eq_getElem _
        rw [instOps_at hqt hqb] at hq2
        cases hq2
        show (1 + m + ts[q]).toNat ≠ 1 + k
        omega
      · cases hq2
    repeat k_all
    refine ex_attr hV.v rfl rfl ?_
    dsimp only
    refine ⟨⟨_, hdk.d, rfl⟩, _, rfl, ?_⟩
    repeat k_all
    refine ⟨⟨_, hV.v, rfl⟩, _, rfl, ?_⟩
    repeat k_all
    refine ex_idxV (view_m hT) (by omega) (by rw [Int.toNat_natCast]; exact hg) ?_
    repeat k_all
    refine cw_home B (j + 1) hV ?_
    repeat k_all
    refine ex_attr hV.v rfl rfl ?_
    dsimp only
    refine ⟨⟨_, hdk.d, rfl⟩, _, rfl, ?_⟩
    repeat k_all
    refine cw_read B (j + 1) hdk (by omega) hrd ?_
    repeat k_all
    refine write_step B (j + 1) hdk (instOps_at hg hbk) (by omega) htk.2 hkb (fun e => stop (by omega) e hdk sm) (fun hk1 H'' hd'' sm'' => ?_)
    repeat k_all
    exact kn _ _ trivial ⟨.inr ⟨_, rfl⟩, by omega, hd'', sm.trans sm''⟩
  · intro loc H' hI
    obtain ⟨hloc, hkb, hdk, sm⟩ := hI
    rw [rngL_len] at hkb hdk
    obtain ⟨hV, hT⟩ := vt sm
    have fin : ∀ H'', DiskAt H'' id ib (app bs ((instOps bs m ts).take (ts.length + 1))) (bu - ((ts.length + 1 : Nat) : Int)) (wr + ((ts.length + 1 : Nat) : Int)) → (ts.length : Int) + 1 ≤ bu → Same id ib H H'' → Q .none H'' := fun H'' hd'' hb'' sm'' => by
      refine hq (by rw [instOps_len]; omega) H'' ?_ sm''
      rw [List.take_of_length_le (by rw [instOps_len]; exact Nat.le_refl _)] at hd''
      rw [instOps_len]
      exact hd''
    rcases hloc with rfl | ⟨d, rfl⟩
    all_goals (
      repeat k_all
      refine ex_attr hV.v rfl rfl ?_
      dsimp only
      refine ⟨⟨_, hdk.d, rfl⟩, _, rfl, ?_⟩
      repeat k_all
      refine cw_encode_header (l := []) B j rfl rfl (by simp) ?_
      repeat k_all
      refine write_step B (j + 1) hdk (instOps_last bs m ts) (by omega) (show (0 : Int).toNat < bs.length by show 0 < _; omega) hkb (fun e => stop (Nat.le_refl _) e hdk sm) (fun hk1 H'' hd'' sm'' => ?_)
      repeat k_all
      exact fin H'' hd'' (by omega) (sm.trans sm''))

noncomputable def namesOf (st : List (Int × List Int)) : List Int := st.map (·.1)
noncomputable def logOps (st : List (Int × List Int)) : List (Nat × List Int) := (List.range st.length).map fun k => (1 + k, (st.getD k (0, [])).2)
noncomputable def hdrOf (st : List (Int × List Int)) : List Int := sealedP ((st.length : Int) :: namesOf st)
noncomputable def firstOps (st : List (Int × List Int)) : List (Nat × List Int) := logOps st ++ [(0, hdrOf st)]
noncomputable def homes (m : Int) (st : List (Int × List Int)) : List (Nat × List Int) := st.map fun q => ((1 + m + q.1).toNat, q.2)
noncomputable def lawOps (m : Int) (st : List (Int × List Int)) : List (Nat × List Int) := firstOps st ++ (homes m st ++ [(0, sealedP [0])])

theorem logOps_len (st : List (Int × List Int)) : (logOps st).length = st.length := by simp [logOps]
theorem firstOps_len (st : List (Int × List Int)) : (firstOps st).length = st.length + 1 := by simp [firstOps, logOps]
theorem lawOps_len (m : Int) (st : List (Int × List Int)) : (lawOps m st).length = 2 * st.length + 2 := by simp [lawOps, firstOps, logOps, homes]; omega
theorem logOps_at {st : List (Int × List Int)} {k : Nat} {q : Int × List Int} (h : st[k]? = some q) : (logOps st)[k]? = some (1 + k, q.2) := by
  have hl := (List.getElem?_eq_some_iff.mp h).1
  unfold logOps
  rw [List.getElem?_map, List.getElem?_range hl]
  simp only [Option.map_some, List.getD_eq_getElem?_getD, h, Option.getD_some]

/-- after the log and the header are written, the log blocks stand -/
theorem log_stands {bs : List (List Int)} {st : List (Int × List Int)} (hn : st.length + 1 ≤ bs.length) {k : Nat} {q : Int × List Int} (h : st[k]? = some q) : (app bs (firstOps st))[1 + k]? = some q.2 := by
  have hk := (List.getElem?_eq_some_iff.mp h).1
  unfold firstOps
  rw [app_app]
  show ((app bs (logOps st)).set 0 (hdrOf st))[1 + k]? = _
  rw [List.getElem?_set_ne (by omega)]
  have e : logOps st = (logOps st).take (k + 1) ++ (logOps st).drop (k + 1) := (List.take_append_drop _ _).symm
  rw [e, app_app, app_get, app_take (logOps_at h), List.getElem?_set_self (by rw [app_len]; omega)]
  intro o ho
  obtain ⟨i, hi⟩ := List.mem_iff_getElem?.mp ho
  rw [List.getElem?_drop] at hi
  have hlt : k + 1 + i < st.length := by
    have := (List.getElem?_eq_some_iff.mp hi).1
    rw [logOps_len] at this
    exact this
  rw [logOps_at (List.getElem?_eq_getElem hlt)] at hi
  cases hi
  show 1 + (k + 1 + i) ≠ 1 + k
  omega

theorem inst_eq {bs : List (List Int)} {st : List (Int × List Int)} {m : Int} (hn : st.length + 1 ≤ bs.length) : instOps (app bs (firstOps st)) m (namesOf st) = homes m st ++ [(0, sealedP [0])] := by
  unfold instOps
  congr 1
  unfold homeOps homes namesOf
  refine List.ext_getElem? fun k => ?_
  rw [List.getElem?_map, List.getElem?_map]
  by_cases hk : k < st.length
  · rw [List.getElem?_range (by simpa using hk), List.getElem?_eq_getElem hk]
    simp only [Option.map_some]
    rw [List.getD_eq_getElem?_getD, List.getD_eq_getElem?_getD, log_stands hn (List.getElem?_eq_getElem hk), List.getElem?_map, List.getElem?_eq_getElem hk]
    rfl
  · rw [List.getElem?_eq_none (by simpa using hk), List.getElem?_eq_none (by omega)]
    rfl

theorem cw_commit {w : World} {s : Shared} (B : Bs w s) (j : Nat) {iv id is ib : Nat} {n m bu wr : Int} {st : List (Int × List Int)} {bs : List (List Int)} {H : Hp} {Q : D → Hp → Prop} {X : Value → Hp → Prop} (h : VaultAt H iv id is n m st false) (hd : DiskAt H id ib bs bu wr)
    (hv : iv ≠ id ∧ iv ≠ ib ∧ is ≠ id ∧ is ≠ ib) (hm : 0 ≤ m) (hst : ∀ q ∈ st, 0 ≤ q.1 ∧ (1 + m + q.1).toNat < bs.length ∧ q.1 ≤ 1000) (hlog : (st.length : Int) ≤ m) (hbs : m + 1 ≤ bs.length) (hn : st.length ≤ 50) (hbu : 0 ≤ bu)
    (hx : bu < (lawOps m st).length → ∀ H', DiskAt H' id ib (app bs ((lawOps m st).take bu.toNat)) 0 (wr + bu) → VaultAt H' iv id is n m st true → X (.ref 31) H')
    (hq : ((lawOps m st).length : Int) ≤ bu → ∀ H' is', DiskAt H' id ib (app bs (lawOps m st)) (bu - (lawOps m st).length) (wr + (lawOps m st).length) → VaultAt H' iv id is' n m [] false → Q .none H') :
    CW (mkG w s) (j + 4) 272 [.inst 282 iv] H Q X := by
  have live : ∀ {i o}, H[i]? = some o → i < H.length := fun h => (List.getElem?_eq_some_iff.mp h).1
  have hiv := live h.v
  have his := live h.s
  have hid := live hd.d
  have hib := live hd.b
  refine fn_cwK (B.pok (j + 3)) 272 [Str.ofString "self"] (by kernel_rfl) (bind1 fun a => by kernel_rfl) rfl ?_
  conv in (bodyAt _ _) => whnf
  conv in (Scope.names _) => whnf
  repeat k_all
  -- what holds while the transaction runs
  have lift : ∀ {H' : Hp}, (∀ q, q < H.length → q ≠ id → q ≠ ib → H'[q]? = H[q]?) → VaultAt H' iv id is n m st false := fun {H'} sm => ⟨(sm iv hiv hv.1 hv.2.1).trans h.v, (sm is his hv.2.2.1 hv.2.2.2).trans h.s, h.ne⟩
  have sm0 : ∀ q, q < H.length → q ≠ id → q ≠ ib → (H ++ [AObj.lst []])[q]? = H[q]? := fun q hq _ _ => List.getElem?_append_left hq
  have hV0 := lift sm0
  have hd0 : DiskAt (H ++ [AObj.lst []]) id ib bs bu wr := ⟨(List.getElem?_append_left hid).trans hd.d, (List.getElem?_append_left hib).trans hd.b, hd.ne⟩
  have hN : ∀ k, k < st.length → (lawOps m st)[k]? = (logOps st)[k]? := fun k hk => by
    unfold lawOps firstOps
    rw [List.append_assoc, List.getElem?_append_left (by rw [logOps_len]; exact hk)]
  have hNh : (lawOps m st)[st.length]? = some (0, hdrOf st) := by
    unfold lawOps firstOps
    rw [List.append_assoc, ← logOps_len st, List.getElem?_append_right (Nat.le_refl _)]
    simp
  have fail : ∀ {k : Nat} {H' : Hp}, k < (lawOps m st).length → bu = k → DiskAt H' id ib (app bs ((lawOps m st).take k)) (bu - k) (wr + k) → (∀ q, q < H.length → q ≠ id → q ≠ ib → H'[q]? = H[q]?) → X (.ref 31) (H'.set iv (.dict (setL (Str.ofString "dead") (.bool true) [(Str.ofString "disk", .inst 163 id), (Str.ofString "slots", .int n), (Str.ofString "log_size", .int m), (Str.ofString "staged", .mref is), (Str.ofString "dead", .bool false)]))) := fun {k H'} hk e hd' sm => by
    have hV := lift sm
    refine hx (by omega) _ ?_ ⟨hset_eq hV.v, (hset_ne h.ne).trans hV.s, h.ne⟩
    have e1 : bu.toNat = k := by omega
    have e2 : bu - (k : Int) = 0 := by omega
    rw [e2] at hd'
    rw [e1, e]
    exact ⟨(hset_ne hv.1).trans hd'.d, (hset_ne hv.2.1).trans hd'.b, hd'.ne⟩
  refine ex_attr hV0.v rfl rfl ?_
  repeat k_all
  refine ex_len (view_m hV0.s) ?_
  rw [show (st.map fun q => D.tup [.int q.1, .lst (iL q.2)]).length = st.length from by simp]
  repeat k_all
  refine ex_range (by omega) ?_
  refine ⟨rngL st.length, rfl, ?_⟩
  refine forW_rule (fun k loc H' => (loc = [(Str.ofString "self", .inst 282 iv), (Str.ofString "targets", .mref H.length)] ∨ ∃ d, loc = [(Str.ofString "self", .inst 282 iv), (Str.ofString "targets", .mref H.length), (Str.ofString "j", d)]) ∧ (k : Int) ≤ bu ∧ DiskAt H' id ib (app bs ((lawOps m st).take k)) (bu - k) (wr + k) ∧
      H'[H.length]? = some (.lst (iL ((namesOf st).take k))) ∧ H'.length = H.length + 1 ∧ ∀ q, q < H.length → q ≠ id → q ≠ ib → H'[q]? = H[q]?) ?_ ?_
    ⟨.inl rfl, by omega, by simpa [app] using hd0, by simp [iL], by simp, sm0⟩
  · intro k d loc H' K hi hI kn kc kb kr
    obtain ⟨hloc, hkb, hdk, hT, hln, sm⟩ := hI
    obtain ⟨rfl, hk⟩ := rng_at hi
    refine ⟨[(Str.ofString "self", .inst 282 iv), (Str.ofString "targets", .mref H.length), (Str.ofString "j", .int (k : Int))], ?_, ?_⟩
    · rcases hloc with rfl | ⟨d, rfl⟩ <;> rfl
    have hV := lift sm
    have hg : st[k]? = some st[k] := List.getElem?_eq_getElem hk
    generalize st[k] = q at hg
    repeat k_all
    refine ex_attr hV.v rfl rfl ?_
    dsimp only
    refine ⟨⟨_, hdk.d, rfl⟩, _, rfl, ?_⟩
    repeat k_all
    refine ex_attr hV.v rfl rfl ?_
    repeat k_all
    refine ex_pAt hV.s hg ?_
    repeat k_all
    have hop : (lawOps m st)[k]? = some ((1 + (k : Int)).toNat, q.2) := by rw [hN k hk, logOps_at hg, show (1 + (k : Int)).toNat = 1 + k by omega]
    refine write_step B (j + 2) hdk hop (by omega) (by omega) hkb (fun e => ?_) (fun hk1 H'' hd'' sm'' => ?_)
    · repeat k_all
      exact go_UB rfl rfl hV.v (by simp) rfl (fail (by rw [lawOps_len]; omega) e hdk sm)
    have sm2 : ∀ q, q < H.length → q ≠ id → q ≠ ib → H''[q]? = H[q]? := fun q a b c => (sm''.2 q b c).trans (sm q a b c)
    have hV2 := lift sm2
    have hT2 : H''[H.length]? = some (.lst (iL ((namesOf st).take k))) := (sm''.2 _ (by omega) (by omega)).trans hT
    repeat k_all
    refine ⟨rfl, ⟨_, hT2⟩, rfl, ?_⟩
    repeat k_all
    refine ex_attr hV2.v rfl rfl ?_
    repeat k_all
    refine ex_pAt hV2.s hg ?_
    repeat k_all
    refine ⟨_, _, hT2, rfl, by rw [iL_len]; simp; omega, ?_⟩
    repeat k_all
    refine kn _ _ trivial ⟨.inr ⟨_, rfl⟩, by omega, ⟨(hset_ne (by omega)).trans hd''.d, (hset_ne (by omega)).trans hd''.b, hd''.ne⟩, ?_, by rw [List.length_set, sm''.1, hln], fun q a b c => (hset_ne (by omega)).trans (sm2 q a b c)⟩
    rw [hset_eq hT2]
    have : (namesOf st).take (k + 1) = (namesOf st).take k ++ [q.1] := by rw [List.take_add_one]; unfold namesOf; rw [List.getElem?_map, hg]; rfl
    rw [this, iL_app]
    rfl
  · intro loc H' hI
    obtain ⟨hloc, hkb, hdk, hT, hln, sm⟩ := hI
    rw [rngL_len] at hkb hdk hT
    rw [List.take_of_length_le (by simp [namesOf])] at hT
    have hV := lift sm
    have hb1 : app bs ((lawOps m st).take (st.length + 1)) = app bs (firstOps st) := by
      unfold lawOps
      rw [List.take_append_of_le_length (by rw [firstOps_len]; exact Nat.le_refl _), List.take_of_length_le (by rw [firstOps_len]; exact Nat.le_refl _)]
    have happ : ∀ k, app (app bs (firstOps st)) ((homes m st ++ [(0, sealedP [0])]).take k) = app bs ((lawOps m st).take (st.length + 1 + k)) := fun k => by
      rw [← app_app]
      unfold lawOps
      conv => rhs; rw [List.take_append, firstOps_len, List.take_of_length_le (l := firstOps st) (by rw [firstOps_len]; omega), Nat.add_sub_cancel_left]
    have fin : ∀ H'', DiskAt H'' id ib (app bs (lawOps m st)) (bu - (lawOps m st).length) (wr + (lawOps m st).length) → ((lawOps m st).length : Int) ≤ bu → H''.length = H.length + 1 → (∀ q, q < H.length → q ≠ id → q ≠ ib → H''[q]? = H[q]?) →
        Q .none ((H'' ++ [AObj.lst []]).set iv (.dict (setL (Str.ofString "staged") (.mref (H'').length) [(Str.ofString "disk", .inst 163 id), (Str.ofString "slots", .int n), (Str.ofString "log_size", .int m), (Str.ofString "staged", .mref is), (Str.ofString "dead", .bool false)]))) := fun H'' hd'' hb'' hl'' sm'' => by
      have hV'' := lift sm''
      have e0 : (H'' ++ [AObj.lst []])[iv]? = _ := (List.getElem?_append_left (by omega)).trans hV''.v
      refine hq hb'' _ H''.length ⟨(hset_ne hv.1).trans ((List.getElem?_append_left (by omega)).trans hd''.d), (hset_ne hv.2.1).trans ((List.getElem?_append_left (by omega)).trans hd''.b), hd''.ne⟩ ⟨hset_eq e0, ?_, by omega⟩
      rw [hset_ne (by omega)]
      simp
    rcases hloc with rfl | ⟨d, rfl⟩
    all_goals (
      repeat k_all
      refine ex_attr hV.v rfl rfl ?_
      dsimp only
      refine ⟨⟨_, hdk.d, rfl⟩, _, rfl, ?_⟩
      repeat k_all
      refine cw_encode_header (l := namesOf st) B (j + 1) (view_m hT) ?_ (by simp [namesOf]; omega) ?_
      · rw [List.all_eq_true]
        intro x hx'
        obtain ⟨q, hq1, rfl⟩ := List.mem_map.mp hx'
        have := hst q hq1
        unfold tiny
        rw [decide_eq_true_eq]
        omega
      repeat k_all
      rw [show ((namesOf st).length : Int) = (st.length : Int) from by simp [namesOf]]
      refine write_step B (j + 2) hdk hNh (by omega) (show (0 : Int).toNat < bs.length by show 0 < _; omega) hkb (fun e => ?_) (fun hk1 H'' hd'' sm'' => ?_)
      · repeat k_all
        exact go_UB rfl rfl hV.v (by simp) rfl (fail (by rw [lawOps_len]; omega) e hdk sm)
      have sm2 : ∀ q, q < H.length → q ≠ id → q ≠ ib → H''[q]? = H[q]? := fun q a b c => (sm''.2 q b c).trans (sm q a b c)
      have hV2 := lift sm2
      have hT2 : H''[H.length]? = some (.lst (iL (namesOf st))) := (sm''.2 _ (by omega) (by omega)).trans hT
      rw [hb1] at hd''
      repeat k_all
      refine ⟨⟨_, hV2.v, rfl⟩, _, rfl, ?_⟩
      repeat k_all
      refine cw_install (it := H.length) B j hV2 hd'' ⟨hv.1, hv.2.1, hv.2.2.1, hv.2.2.2, by omega, by omega⟩ hT2 hm ?_ (by simp [namesOf]; omega) (by rw [app_len]; exact hbs) (by simp [namesOf]; omega) (by omega) (fun hlt H3 hd3 sm3 => ?_) (fun hle H3 hd3 sm3 => ?_)
      · intro t ht
        obtain ⟨q, hq1, rfl⟩ := List.mem_map.mp ht
        rw [app_len]
        exact ⟨(hst q hq1).1, (hst q hq1).2.1⟩
      · have sm4 : ∀ q, q < H.length → q ≠ id → q ≠ ib → H3[q]? = H[q]? := fun q a b c => (sm3.2 q b c).trans (sm2 q a b c)
        rw [inst_eq (by omega)] at hlt hd3
        rw [happ] at hd3
        have hL := lawOps_len m st
        have hl2 : (homes m st ++ [(0, sealedP [0])]).length = st.length + 1 := by simp [homes]
        repeat k_all
        refine go_UB rfl rfl (lift sm4).v (by simp) rfl (fail (k := bu.toNat) (by omega) (by omega) ?_ sm4)
        have e1 : st.length + 1 + (bu - ((st.length + 1 : Nat) : Int)).toNat = bu.toNat := by omega
        rw [e1] at hd3
        have e2 : wr + ((st.length + 1 : Nat) : Int) + (bu - ((st.length + 1 : Nat) : Int)) = wr + (bu.toNat : Int) := by omega
        have e3 : bu - (bu.toNat : Int) = 0 := by omega
        rw [e2] at hd3
        rw [e3]
        exact hd3
      · have sm4 : ∀ q, q < H.length → q ≠ id → q ≠ ib → H3[q]? = H[q]? := fun q a b c => (sm3.2 q b c).trans (sm2 q a b c)
        rw [inst_eq (by omega)] at hle hd3
        have hL := lawOps_len m st
        have hl2 : (homes m st ++ [(0, sealedP [0])]).length = st.length + 1 := by simp [homes]
        have e1 : app (app bs (firstOps st)) (homes m st ++ [(0, sealedP [0])]) = app bs (lawOps m st) := by rw [← app_app]; rfl
        rw [e1, hl2] at hd3
        have e2 : bu - ((st.length + 1 : Nat) : Int) - ((st.length + 1 : Nat) : Int) = bu - ((lawOps m st).length : Int) := by omega
        have e3 : wr + ((st.length + 1 : Nat) : Int) + ((st.length + 1 : Nat) : Int) = wr + ((lawOps m st).length : Int) := by omega
        rw [e2, e3] at hd3
        have hl3 : H3.length = H.length + 1 := by rw [sm3.1, sm''.1, hln]
        repeat k_all
        refine ⟨rfl, _, (List.getElem?_append_left (by omega)).trans (lift sm4).v, by simp, ?_⟩
        repeat k_all
        exact fin H3 hd3 (by omega) hl3 sm4)

noncomputable def staged2 (st : List (Int × List Int)) (i : Int) (b : List Int) : List (Int × List Int) := if (namesOf st).any (· == i) then st.map (fun p => if p.1 = i then (i, b) else p) else st ++ [(i, b)]

theorem cw_staged {w : World} {s : Shared} (B : Bs w s) (j : Nat) {st : List (Int × List Int)} {i : Int} {b : List Int} {H : Hp} {Q : D → Hp → Prop} {X : Value → Hp → Prop} (hl : st.length ≤ 1000) (hq : Q (.lst (pL (staged2 st i b))) H) :
    CW (mkG w s) (j + 1) 368 [.lst (pL st), .int i, .lst (iL b)] H Q X := by
  refine fn_cwK (B.pok j) 368 [Str.ofString "pairs_so_far", Str.ofString "s", Str.ofString "body"] (by kernel_rfl) (bind3 fun a b c => by kernel_rfl) rfl ?_
  conv in (bodyAt _ _) => whnf
  conv in (Scope.names _) => whnf
  repeat k_all
  refine ⟨by rw [pL_len]; omega, ?_⟩
  refine compW_map (fun x => match x with | .tup (d :: _) => d | d => d) (fun x hx a K hk => ?_) (fun x hx a K hk => ?_) (fun x hx => ?_) ?_
  · repeat k_all
    exact hk
  · obtain ⟨q, _, rfl⟩ := List.mem_map.mp hx
    repeat k_all
    exact hk
  · obtain ⟨q, _, rfl⟩ := List.mem_map.mp hx
    rfl
  rw [List.nil_append, show (pL st).map (fun x => match x with | .tup (d :: _) => d | d => d) = iL (namesOf st) from by unfold pL iL namesOf; rw [List.map_map, List.map_map]; rfl]
  refine ⟨(namesOf st).any (· == i), ?_, ?_⟩
  · show ((intsOf (iL (namesOf st))).bind fun l => some (l.any (· == i))) = _
    rw [intsOf_iL]; rfl
  unfold staged2 at hq
  cases hc : (namesOf st).any (· == i) with
  | true =>
    rw [hc] at hq
    simp only [if_true] at hq
    repeat k_all
    refine ⟨by rw [pL_len]; omega, ?_⟩
    refine compW_map (fun x => match x with | .tup (.int a :: _) => if a = i then .tup [.int i, .lst (iL b)] else x | d => d) (fun x hx a K hk => ?_) (fun x hx a K hk => ?_) (fun x hx => ?_) ?_
    · repeat k_all
      exact hk
    · obtain ⟨q, _, rfl⟩ := List.mem_map.mp hx
      dsimp only at hk
      repeat k_all
      by_cases c : q.1 = i
      · have f : (q.1 == i) = true := beq_iff_eq.mpr c
        rw [if_pos c] at hk
        repeat k_all
        exact hk
      · have f : (q.1 == i) = false := beq_eq_false_iff_ne.mpr c
        rw [if_neg c] at hk
        repeat k_all
        exact hk
    · obtain ⟨q, _, rfl⟩ := List.mem_map.mp hx
      dsimp only
      by_cases c : q.1 = i
      · rw [if_pos c]; exact Bool.and_eq_true_iff.mpr ⟨below_iL _ _, rfl⟩
      · rw [if_neg c]; exact Bool.and_eq_true_iff.mpr ⟨below_iL _ _, rfl⟩
    rw [List.nil_append]
    have e : (pL st).map (fun x => match x with | .tup (.int a :: _) => if a = i then .tup [.int i, .lst (iL b)] else x | d => d) = pL (st.map fun p => if p.1 = i then (i, b) else p) := by
      unfold pL
      rw [List.map_map, List.map_map]
      refine List.map_congr_left fun q hq => ?_
      show (if q.1 = i then _ else _) = D.tup [.int (if q.1 = i then (i, b) else q).1, .lst (iL (if q.1 = i then (i, b) else q).2)]
      by_cases c : q.1 = i
      · rw [if_pos c, if_pos c]
      · rw [if_neg c, if_neg c]
    rw [e]
    exact hq
  | false =>
    rw [hc] at hq
    simp only [Bool.false_eq_true, if_false] at hq
    repeat k_all
    refine ex_addL (by rw [pL_len]; simp; omega) ?_
    have e : pL st ++ [.tup [.int i, .lst (iL b)]] = pL (st ++ [(i, b)]) := by simp [pL]
    rw [e]
    exact hq

theorem cw_store_tells {w : World} {s : Shared} (B : Bs w s) (j : Nat) {iv id is ib : Nat} {n m bu wr : Int} {st : List (Int × List Int)} {dead : Bool} {bs hs : List (List Int)} {H : Hp} {Q : D → Hp → Prop} {X : Value → Hp → Prop} (h : VaultAt H iv id is n m st dead) (hd : DiskAt H id ib bs bu wr) (hm : 0 ≤ m)
    (hh : ∀ k : Nat, k < 3 → ∃ b c, hs[k]? = some b ∧ b ≠ [] ∧ bs[(1 + m + (k : Int)).toNat]? = some c ∧ (∀ q, st.find? (fun q => q.1 == (k : Int)) = some q → q.2 = b ∧ decodeSlot b ≠ none) ∧ (st.find? (fun q => q.1 == (k : Int)) = none → c = b))
    (hq : Q (.bool true) H) : CW (mkG w s) (j + 4) 363 [.inst 282 iv, .lst (bL hs)] H Q X := by
  refine fn_cwK (B.pok (j + 3)) 363 [Str.ofString "store", Str.ofString "homes"] (by kernel_rfl) (bind2 fun a b => by kernel_rfl) rfl ?_
  conv in (bodyAt _ _) => whnf
  conv in (Scope.names _) => whnf
  repeat k_all
  refine forW_rule (fun k loc H' => (loc = [(Str.ofString "store", .inst 282 iv), (Str.ofString "homes", .lst (bL hs))] ∨ ∃ d e, loc = [(Str.ofString "store", .inst 282 iv), (Str.ofString "homes", .lst (bL hs)), (Str.ofString "i", d), (Str.ofString "got", e)]) ∧ H' = H) ?_ ?_ ⟨.inl rfl, rfl⟩
  · intro k d loc H' K hi hI kn kc kb kr
    obtain ⟨hloc, rfl⟩ := hI
    obtain ⟨rfl, hk⟩ := rng_at (n := 3) hi
    obtain ⟨b, c, g1, g2, g3, g4, g5⟩ := hh k hk
    have rs : ∀ {Q' : D → Hp → Prop} {X' : Value → Hp → Prop}, (∀ r, decodeSlot b = some r → Q' (.tup [.bool r.1, .int r.2.1, .int r.2.2]) H') → (decodeSlot b = none → X' (.ref 57) H') → CW (mkG w s) (j + 3) 216 [.inst 282 iv, .int (k : Int)] H' Q' X' := fun {Q' X'} q1 q2 =>
      cw_read_slot B j h hd (by omega) g3 (fun q hq => by
        obtain ⟨e1, e2⟩ := g4 q hq
        exact ⟨fun r hr => q1 r (by rw [← e1]; exact hr), fun hr => absurd (by rw [← e1]; exact hr) e2⟩) (fun hf => by
        have e1 := g5 hf
        exact ⟨fun r hr => q1 r (by rw [← e1]; exact hr), fun hr => q2 (by rw [← e1]; exact hr)⟩)
    have idx : ∀ {P : D → Prop}, P (.lst (iL b)) → ∃ d, idxD (view H' (.lst (bL hs))) (.int (k : Int)) = some d ∧ P d := fun q => ⟨_, by show (if (0 : Int) ≤ k then (bL hs)[((k : Int)).toNat]? else none) = _; rw [if_pos (by omega), Int.toNat_natCast, bL_get, g1]; rfl, q⟩
    refine ⟨setL (Str.ofString "i") (.int (k : Int)) loc, rfl, ?_⟩
    rcases hloc with rfl | ⟨d, e, rfl⟩
    all_goals (
      repeat k_all
      refine ⟨⟨_, h.v, rfl⟩, _, rfl, ?_⟩
      repeat k_all
      refine rs (fun r hr => ?_) (fun hr => ?_)
      · have e : slotD b = .tup [.bool r.1, .int r.2.1, .int r.2.2] := by unfold slotD; rw [hr]
        repeat k_all
        refine idx ?_
        repeat k_all
        refine cw_slot_due B j g2 ?_
        repeat k_all
        rw [e]
        refine cw_same B (j + 2) (plain_slotT _ _ _) ?_
        repeat k_all
        exact kn _ _ trivial ⟨.inr ⟨_, _, rfl⟩, rfl⟩
      · have e : slotD b = .str (Str.ofString "refused") := by unfold slotD; rw [hr]
        repeat k_all
        refine idx ?_
        repeat k_all
        refine cw_slot_due B j g2 ?_
        repeat k_all
        rw [e]
        refine cw_same B (j + 2) plain_refused ?_
        repeat k_all
        exact kn _ _ trivial ⟨.inr ⟨_, _, rfl⟩, rfl⟩)
  · intro loc H' hI
    obtain ⟨hloc, rfl⟩ := hI
    repeat k_all
    exact hq

theorem lawAt (P : Params) : nsIn (heapK P) mainGlobals (Str.ofString "law") = some (some (.ref 373)) := by kernel_rfl

theorem inv_start {w : World} {s : Shared} (hg : s.gens = #[]) : Inv (mkG w s) [] [] [] s :=
  ⟨fun _ _ e => e, hg, rfl, trivial, (fun _ h => nomatch h), List.nodup_nil, (fun _ h => nomatch h), (fun _ h => nomatch h), rfl, fun i a o e => by simp at e⟩

theorem well_ints {P : Params} {h : Heap} {ns : List Int} : ∀ {vs : List Value}, WellAll P h vs ((ns.map PyData.int).map ofPy) → Reps h [] vs (iL ns) := by
  induction ns with
  | nil => intro vs w; cases w; exact .nil
  | cons n ns ih =>
    intro vs w
    cases w with
    | cons a r => cases a; exact .cons (.int _ _) (ih r)

theorem law_args {w : World} {s₀ s₁ : Shared} {args : List WData} {vals : List Value} {as : List Addr} (hpre : PySem.Challenge.rw_sx_yvault_1.row.toRowW.claim.pre args = true) (hlay : WData.layableAll args = true)
    (hrd : ReadsAllW PySem.Challenge.rw_sx_yvault_1.row.toRowW.records (classAt s₀.heap) s₁.heap vals args as) (hwl : WellAll w.params s₁.heap vals args) (hlo : ∀ a ∈ as, (a == sysModules) = false) :
    ∃ (ns : List Int) (a : Addr), vals = [.ref a] ∧ ns.length ≤ 63 ∧ Rep s₁.heap [] (.ref a) (.lst (iL ns)) := by
  wrow_args hpre hlay hrd hwl hlo
  rename_i ns _ _ _ _ _ _ _ a vs _ _ _ w1 _ _ _ hlen _
  have hn : ns.length ≤ 63 := by omega
  refine ⟨ns, a, rfl, hn, ?_⟩
  have e : ofPy (PyData.list (ns.map PyData.int)) = .list ((ns.map PyData.int).map ofPy) := by simp [ofPy, ofPys_eq]
  have w2 : Well w.params s₁.heap (.ref a) (.list ((ns.map PyData.int).map ofPy)) := e ▸ w1
  cases w2 with
  | list h1 h2 =>
    have rs := well_ints h2
    refine .lst (n := 0) h1 (fun z => nomatch z) ?_ rs
    rw [rs.length, iL_len, sizeLine_eq]; exact Nat.le_trans hn (by decide)

theorem law_end (main : ∀ (w : World) (s : Shared) (ns : List Int), Bs w s → ns.length ≤ 63 → CW (mkG w s) 20 373 [.lst (iL ns)] [] (fun d _ => d = .bool true) (fun _ _ => False)) : PySem.Challenge.rw_sx_yvault_1.Holds := by
  refine hd ?_
  intro w s₀ s₁ mg mb G Y fa o pm cd doc dV kV ho hdd hcd hD hmg hg args vals as hpre hlay hrd hwl hlo
  have KX : (heapK w.params).In s₁.heap := Y
  have T := G.T
  have hfa : fa = 373 := by
    have := nsIn_ns KX T.g (lawAt w.params)
    rw [show mg (Str.ofString "law") = some (.ref fa) from hmg] at this
    cases this; rfl
  have Bs₁ : Bs w s₁ := ⟨KX, T.nolimit, mg, mb, T.g, T.b, T.builtins⟩
  obtain ⟨ns, a, e, hn, rep⟩ := law_args hpre hlay hrd hwl hlo
  rw [hfa, e]
  refine enter_call (codeAny_mono (main w s₁ ns Bs₁ hn callerA [] s₁ [] [.ref a] ⟨rfl, rfl, by decide, by decide⟩ (inv_start hg) (.cons rep .nil)) fun r s' h => ?_)
  cases r with
  | ok f =>
    cases f with
    | ret v =>
      obtain ⟨μ', H', d, I, x, rp, rfl⟩ := h
      obtain rfl := rp.inv
      refine ⟨.inl ⟨.bool true, .bool true, [], rfl, fun _ => rfl, .bool true, ?_, fun _ => ⟨List.nodup_nil, fun a h => nomatch h⟩⟩, OldK.of_keep I.stays, I.os, AllBare.of_eq I.gens⟩
      first | kernel_rfl | exact postC_of (X := true) (by kernel_rfl) (by kernel_rfl) rfl | (simp [RowW.claim, OpenLaw.row, WTm.holds]; done)
    | _ => exact h.elim
  | error e =>
    obtain ⟨_, _, _, _, _, _, z⟩ := h
    exact z.elim

theorem fourB_num4 {a b c d : Int} (h : bytesOk [a, b, c, d] = true) : fourB (num4 [a, b, c, d]) = [a, b, c, d] := by
  simp only [bytesOk, List.all_cons, List.all_nil, Bool.and_true, Bool.and_eq_true, decide_eq_true_eq] at h
  obtain ⟨h1, h2, h3, h4⟩ := h
  have f : ∀ x y : Int, 0 < y → x.fdiv y = x / y := fun x y hy => Int.fdiv_eq_ediv_of_nonneg _ (by omega)
  have g : ∀ x y : Int, 0 < y → x.fmod y = x % y := fun x y hy => Int.fmod_eq_emod_of_nonneg _ (by omega)
  unfold fourB num4
  rw [f _ _ (by decide), f _ _ (by decide), f _ _ (by decide), g _ _ (by decide), g _ _ (by decide), g _ _ (by decide), g _ _ (by decide)]
  have e1 : (((a * 256 + b) * 256 + c) * 256 + d) / 16777216 % 256 = a := by omega
  have e2 : (((a * 256 + b) * 256 + c) * 256 + d) / 65536 % 256 = b := by omega
  have e3 : (((a * 256 + b) * 256 + c) * 256 + d) / 256 % 256 = c := by omega
  have e4 : (((a * 256 + b) * 256 + c) * 256 + d) % 256 = d := by omega
  rw [e1, e2, e3, e4]

theorem bytesOk_rep (n : Nat) : bytesOk (List.replicate n 0) = true := by
  unfold bytesOk; rw [List.all_eq_true]; intro x hx; rw [List.eq_of_mem_replicate hx]; rfl

theorem sealP_sealed {l : List Int} (h : l.length ≤ 15) (hb : bytesOk l = true) : sealP (sealedP l) = true := by
  have hl := sealedP_len h
  have e0 : (l ++ List.replicate (15 - (l.length : Int)).toNat 0).length = 15 := by simp; omega
  have e1 : (sealedP l)[15]? = some (l.sum.fmod 256) := by
    unfold sealedP
    rw [List.getElem?_append_right (by omega), e0]; rfl
  have e2 : (sealedP l).take 15 = l ++ List.replicate (15 - (l.length : Int)).toNat 0 := by
    unfold sealedP
    rw [List.take_append_of_le_length (by omega), List.take_of_length_le (by omega)]
  have e3 : bytesOk (sealedP l) = true := by
    unfold sealedP
    rw [bytesOk_app, bytesOk_app, hb, bytesOk_rep]
    have := fmod_byte l.sum
    simp [bytesOk, this]
  unfold sealP
  rw [e1, e2, e3, hl, sum_rep0]
  simp

theorem decode_full {a b c d e f g h : Int} (hk : bytesOk [a, b, c, d] = true) (hv : bytesOk [e, f, g, h] = true) : decodeSlot (sealedP (1 :: [a, b, c, d] ++ [e, f, g, h])) = some (true, num4 [a, b, c, d], num4 [e, f, g, h]) := by
  have hb : bytesOk (1 :: [a, b, c, d] ++ [e, f, g, h]) = true := by
    rw [show (1 :: [a, b, c, d] ++ [e, f, g, h] : List Int) = [1] ++ [a, b, c, d] ++ [e, f, g, h] from rfl, bytesOk_app, bytesOk_app, hk, hv]; rfl
  have hs := sealP_sealed (l := 1 :: [a, b, c, d] ++ [e, f, g, h]) (by simp) hb
  unfold decodeSlot
  rw [hs]
  rfl

theorem decode_empty : decodeSlot (List.replicate 16 0) = some (false, 0, 0) := by decide

theorem decode_head {T : List Int} (hb : bytesOk T = true) (hl : T.length ≤ 14) : decodeHeader (sealedP ((T.length : Int) :: T)) = some T := by
  have hb' : bytesOk ((T.length : Int) :: T) = true := by
    rw [show ((T.length : Int) :: T) = [(T.length : Int)] ++ T from rfl, bytesOk_app, hb]
    simp [bytesOk]; omega
  have hs := sealP_sealed (l := (T.length : Int) :: T) (by simp; omega) hb'
  have e : sealedP ((T.length : Int) :: T) = (T.length : Int) :: (T ++ List.replicate (15 - (((T.length : Int) :: T).length : Int)).toNat 0 ++ [((T.length : Int) :: T).sum.fmod 256]) := by unfold sealedP; rfl
  have e15 : ((T.length : Int) :: T ++ List.replicate (15 - (((T.length : Int) :: T).length : Int)).toNat 0).length = 15 := by simp; omega
  have et : (sealedP ((T.length : Int) :: T)).take 15 = (T.length : Int) :: T ++ List.replicate (15 - (((T.length : Int) :: T).length : Int)).toNat 0 := by
    unfold sealedP
    rw [List.take_append_of_le_length (by omega), List.take_of_length_le (by omega)]
  unfold decodeHeader
  rw [e]
  dsimp only
  rw [← e, hs, et]
  have e1 : (1 + (T.length : Int)).toNat = T.length + 1 := by omega
  rw [e1, decide_eq_true (by omega : (T.length : Int) ≤ 14)]
  have e2 : ((T.length : Int) :: T ++ List.replicate (15 - (((T.length : Int) :: T).length : Int)).toNat 0).drop (T.length + 1) = List.replicate (15 - (((T.length : Int) :: T).length : Int)).toNat 0 := by
    rw [List.drop_left' (by simp)]
  rw [e2]
  have e3 : (List.replicate (15 - (((T.length : Int) :: T).length : Int)).toNat (0 : Int)).all (· == 0) = true := by
    rw [List.all_eq_true]; intro x hx; rw [List.eq_of_mem_replicate hx]; rfl
  rw [e3]
  have e4 : (sealedP ((T.length : Int) :: T)).take (T.length + 1) = (T.length : Int) :: T := by
    unfold sealedP
    rw [List.append_assoc, List.take_left' (by simp)]
  rw [e4]
  rfl

theorem damage_ne {g : List Int} {k p it : Int} (hg : g.length = 16) (h0 : 0 ≤ p) (h1 : p < 16) : damageP g k p it ≠ [] := by
  intro h
  have h := congrArg List.length h
  unfold damageP at h
  split at h
  · simp at h
  · split at h
    · rw [List.length_append, List.length_take, List.length_drop, List.length_nil] at h; omega
    · split at h
      · rw [List.length_append, List.length_take, List.length_drop, List.length_nil] at h; omega
      · simp [sealedP] at h

theorem damage_len {g : List Int} {k p it : Int} (hg : g.length = 16) (h0 : 0 ≤ p) (h1 : p < 16) : (damageP g k p it).length ≤ 17 := by
  unfold damageP
  split
  · simp; omega
  · split
    · simp; omega
    · split
      · simp; omega
      · have : ((g.take p.toNat ++ [it] ++ g.drop (p + 1).toNat).take 15).length ≤ 15 := by rw [List.length_take]; omega
        rw [sealedP_len this]; omega

/-- staged blocks of a kind -/
noncomputable def Good (P : Int × List Int → Prop) (st : List (Int × List Int)) : Prop := (namesOf st).Nodup ∧ ∀ q ∈ st, P q

theorem names_any (st : List (Int × List Int)) (i : Int) : (namesOf st).any (· == i) = st.any fun q => q.1 == i := by unfold namesOf; rw [List.any_map]; rfl

theorem staged_eq {P : Int × List Int → Prop} {st : List (Int × List Int)} (h : Good P st) (i : Int) (b : List Int) : staged2 st i b = stageP st i b := by
  unfold staged2 stageP
  rw [names_any]
  cases hf : st.findIdx? (fun q => q.1 == i) with
  | none =>
    have hn := List.findIdx?_eq_none_iff.mp hf
    have : (st.any fun q => q.1 == i) = false := by
      rw [Bool.eq_false_iff]; intro z
      obtain ⟨q, hq, z⟩ := List.any_eq_true.mp z
      have := hn q hq
      rw [z] at this; cases this
    rw [if_neg (by rw [this]; decide)]
  | some k =>
    obtain ⟨hk, hp, _⟩ := List.findIdx?_eq_some_iff_getElem.mp hf
    have : (st.any fun q => q.1 == i) = true := List.any_eq_true.mpr ⟨st[k], List.getElem_mem _, hp⟩
    rw [if_pos this]
    apply List.ext_getElem
    · simp
    · intro j hj1 hj2
      rw [List.getElem_map, List.getElem_set]
      by_cases hjk : k = j
      · subst hjk
        rw [if_pos rfl, if_pos (beq_iff_eq.mp hp)]
      · rw [if_neg hjk]
        have hj : j < st.length := by simpa using hj1
        have hne : ¬ st[j].1 = i := by
          intro z
          have hnd := h.1
          unfold namesOf at hnd
          have := (List.nodup_iff_pairwise_ne.mp hnd)
          have hp' : st[k].1 = i := beq_iff_eq.mp hp
          have ek : (st.map (·.1))[k]'(by simpa using hk) = (st.map (·.1))[j]'(by simpa using hj) := by simp [hp', z]
          rcases Nat.lt_or_gt_of_ne hjk with q | q
          · exact List.pairwise_iff_getElem.mp this k j (by simpa using hk) (by simpa using hj) q ek
          · exact List.pairwise_iff_getElem.mp this j k (by simpa using hj) (by simpa using hk) q ek.symm
        rw [if_neg hne]

theorem names_set {st : List (Int × List Int)} {k : Nat} {i : Int} {b : List Int} (hk : k < st.length) (hi : st[k].1 = i) : namesOf (st.set k (i, b)) = namesOf st := by
  unfold namesOf
  apply List.ext_getElem
  · simp
  · intro j h1 h2
    simp only [List.getElem_map, List.getElem_set]
    split
    · rename_i e; subst e; exact hi.symm
    · rfl

theorem stage_good {P : Int × List Int → Prop} {st : List (Int × List Int)} (h : Good P st) {i : Int} {b : List Int} (hp : P (i, b)) : Good P (stageP st i b) := by
  unfold stageP
  cases hf : st.findIdx? (fun q => q.1 == i) with
  | none =>
    have hn := List.findIdx?_eq_none_iff.mp hf
    refine ⟨?_, ?_⟩
    · unfold namesOf
      rw [List.map_append, List.nodup_append]
      refine ⟨h.1, by simp, ?_⟩
      intro a ha c hc
      obtain ⟨q, hq, rfl⟩ := List.mem_map.mp ha
      have := hn q hq
      simp at hc
      subst hc
      intro z
      simp [z] at this
    · intro q hq
      rcases List.mem_append.mp hq with z | z
      · exact h.2 q z
      · rw [List.mem_singleton.mp z]; exact hp
  | some k =>
    obtain ⟨hk, hq, _⟩ := List.findIdx?_eq_some_iff_getElem.mp hf
    refine ⟨?_, ?_⟩
    · show (namesOf (st.set k (i, b))).Nodup
      rw [names_set hk (beq_iff_eq.mp hq)]; exact h.1
    · intro q hq
      rcases List.mem_or_eq_of_mem_set hq with z | z
      · exact h.2 q z
      · rw [z]; exact hp

theorem stage_len {st : List (Int × List Int)} {i : Int} {b : List Int} {m : Nat} (h : st.length ≤ m) (hf : st.findIdx? (fun q => q.1 == i) = none → (st.length : Int) < m) : (stageP st i b).length ≤ m := by
  unfold stageP
  cases hq : st.findIdx? (fun q => q.1 == i) with
  | none => have := hf hq; simp; omega
  | some k => simpa using h

theorem stage_full {P : Int × List Int → Prop} {st : List (Int × List Int)} (hg : Good P st) {i : Int} {b : List Int} {m : Nat} (h : st.length ≤ m) (hf : st.findIdx? (fun q => q.1 == i) = none) (hm : (m : Int) ≤ st.length) : (staged2 st i b).length = m + 1 ∧ (staged2 st i b).take m = st := by
  rw [staged_eq hg]
  unfold stageP
  rw [hf]
  have : st.length = m := by omega
  refine ⟨by simp [this], ?_⟩
  dsimp only
  rw [List.take_left' this]

/-- what stands at k -/
noncomputable def look (st : List (Int × List Int)) (k : Int) (b : List Int) : List Int := match st.find? (fun q => q.1 == k) with
  | some q => q.2
  | none => b

theorem ne_of {P : Int × List Int → Prop} {bs : List (List Int)} {ops : List (Nat × List Int)} (hb : ∀ b ∈ bs, b ≠ []) (ho : ∀ o ∈ ops, o.2 ≠ []) : ∀ b ∈ app bs ops, b ≠ [] := by
  unfold app
  induction ops generalizing bs with
  | nil => exact hb
  | cons o ops ih =>
    refine ih (fun b h => ?_) fun o' h => ho o' (.tail _ h)
    rcases List.mem_or_eq_of_mem_set h with z | z
    · exact hb b z
    · rw [z]; exact ho o (.head _)

theorem set_eq {bs : List (List Int)} {i : Nat} {b : List Int} (h : i < bs.length) : bs.take i ++ [b] ++ bs.drop (i + 1) = bs.set i b := by
  rw [List.set_eq_take_append_cons_drop, if_pos h, List.append_assoc]; rfl

theorem app_set0 (bs : List (List Int)) (h : 0 < bs.length) (ops : List (Nat × List Int)) (b : List Int) : (app bs (ops ++ [(0, b)]))[0]? = some b := by
  rw [app_app]
  show ((app bs ops).set 0 b)[0]? = _
  rw [List.getElem?_set_self (by rw [app_len]; exact h)]

theorem homes_ne {m : Int} {st : List (Int × List Int)} (hm : 0 ≤ m) (h : ∀ q ∈ st, 0 ≤ q.1) : ∀ o ∈ homes m st, o.1 ≠ 0 := by
  intro o ho
  obtain ⟨q, hq, rfl⟩ := List.mem_map.mp ho
  have := h q hq
  show (1 + m + q.1).toNat ≠ 0
  omega
theorem logOps_ne {st : List (Int × List Int)} : ∀ o ∈ logOps st, o.1 ≠ 0 := by
  intro o ho
  obtain ⟨k, hk, rfl⟩ := List.mem_map.mp ho
  show 1 + k ≠ 0
  omega

theorem block0_low {bs : List (List Int)} {st : List (Int × List Int)} {m : Int} {made : Nat} (h : made ≤ st.length) : (app bs ((lawOps m st).take made))[0]? = bs[0]? := by
  apply app_get
  intro o ho
  unfold lawOps firstOps at ho
  rw [List.append_assoc, List.take_append_of_le_length (by rw [logOps_len]; exact h)] at ho
  exact logOps_ne o (List.mem_of_mem_take ho)

theorem block0_mid {bs : List (List Int)} {st : List (Int × List Int)} {m : Int} {made : Nat} (hm : 0 ≤ m) (hq : ∀ q ∈ st, 0 ≤ q.1) (hb : 0 < bs.length) (h : st.length < made) (h2 : made < (lawOps m st).length) : (app bs ((lawOps m st).take made))[0]? = some (hdrOf st) := by
  rw [lawOps_len] at h2
  have e : (lawOps m st).take made = firstOps st ++ (homes m st).take (made - (firstOps st).length) := by
    unfold lawOps
    rw [List.take_append, List.take_of_length_le (by rw [firstOps_len]; omega), List.take_append_of_le_length (by rw [firstOps_len]; simp [homes]; omega)]
  rw [e, app_app, app_get]
  · exact app_set0 bs hb _ _
  · intro o ho
    exact homes_ne hm hq o (List.mem_of_mem_take ho)

theorem block0_top {bs : List (List Int)} {st : List (Int × List Int)} {m : Int} (hb : 0 < bs.length) : (app bs (lawOps m st))[0]? = some (sealedP [0]) := by
  unfold lawOps
  rw [← List.append_assoc]
  exact app_set0 bs hb _ _

theorem lawOps_in {bs : List (List Int)} {st : List (Int × List Int)} {m : Nat} (hq : ∀ q ∈ st, 0 ≤ q.1 ∧ q.1 < 3) (hl : st.length ≤ m) (hb : bs.length = m + 4) : ∀ o ∈ lawOps m st, o.1 < bs.length := by
  intro o ho
  unfold lawOps firstOps at ho
  rcases List.mem_append.mp ho with h | h
  · rcases List.mem_append.mp h with h | h
    · obtain ⟨k, hk, rfl⟩ := List.mem_map.mp h
      have := List.mem_range.mp hk
      show 1 + k < _
      omega
    · rw [List.mem_singleton.mp h]; show 0 < _; omega
  · rcases List.mem_append.mp h with h | h
    · obtain ⟨q, hqq, rfl⟩ := List.mem_map.mp h
      have := hq q hqq
      show (1 + (m : Int) + q.1).toNat < _
      omega
    · rw [List.mem_singleton.mp h]; show 0 < _; omega

theorem sealed_ne (l : List Int) : sealedP l ≠ [] := by unfold sealedP; simp

theorem lawOps_full {st : List (Int × List Int)} {m : Int} (hq : ∀ q ∈ st, q.2 ≠ []) : ∀ o ∈ lawOps m st, o.2 ≠ [] := by
  intro o ho
  unfold lawOps firstOps at ho
  rcases List.mem_append.mp ho with h | h
  · rcases List.mem_append.mp h with h | h
    · obtain ⟨k, hk, rfl⟩ := List.mem_map.mp h
      have hk := List.mem_range.mp hk
      show (st.getD k (0, [])).2 ≠ []
      rw [List.getD_eq_getElem?_getD, List.getElem?_eq_getElem hk]
      exact hq _ (List.getElem_mem _)
    · rw [List.mem_singleton.mp h]; exact sealed_ne _
  · rcases List.mem_append.mp h with h | h
    · obtain ⟨q, hqq, rfl⟩ := List.mem_map.mp h
      exact hq q hqq
    · rw [List.mem_singleton.mp h]; exact sealed_ne _

theorem sealed_zero : sealedP [0] = List.replicate 16 0 := by decide
theorem slot_zero : sealedP (slotBody false 0 0) = List.replicate 16 0 := by decide

theorem toPs_bL : ∀ bs : List (List Int), toPs (bL bs) = some (bs.map fun b => .list (b.map .int))
  | [] => rfl
  | b :: bs => by
    show toPs (.lst (iL b) :: bL bs) = _
    show ((toPs (iL b)).map PyData.list).bind (fun p => (toPs (bL bs)).map (p :: ·)) = _
    rw [toPs_bL bs, toPs_iL]; rfl
theorem canLay_bL : ∀ bs : List (List Int), PyData.canLayAll0 (bs.map fun b => .list (b.map .int)) = true
  | [] => rfl
  | b :: bs => by rw [List.map_cons, PyData.canLayAll0, canLay_bL bs, PyData.canLay0, canLay_iL]; rfl
theorem depth_bL : ∀ bs : List (List Int), PyData.depthAll (bs.map fun b => .list (b.map .int)) ≤ 1
  | [] => by decide
  | b :: bs => by
    have := depth_bL bs
    rw [List.map_cons, PyData.depthAll, PyData.depth, depth_iL]
    omega
theorem shaped_bL (bs : List (List Int)) : shapedP (.list (bs.map fun b => .list (b.map .int))) = true := by
  have := depth_bL bs
  unfold shapedP
  rw [PyData.canLay0, canLay_bL, PyData.depth]
  rw [decide_eq_true (by omega)]; rfl
theorem eqD_bL (bs : List (List Int)) : eqD (.lst (bL bs)) (.lst (bL bs)) = some true := by
  have t : toP (.lst (bL bs)) = some (.list (bs.map fun b => .list (b.map .int))) := by show (toPs (bL bs)).map PyData.list = _; rw [toPs_bL]; rfl
  unfold eqD
  rw [t]
  dsimp only
  rw [shaped_bL]
  show some (PyData.eqv _ _) = _
  rw [eqv_refl _ (by rw [PyData.canLay0, canLay_bL])]
theorem eqD_bool (a b : Bool) : eqD (.bool a) (.bool b) = some (a == b) := by cases a <;> cases b <;> rfl

section
variable {H : Hp} {P : Bool → Prop} {Q : D → Prop}
theorem ex_neB {bs : List (List Int)} (q : P false) : ∃ c, cmpD .NotEq (view H (.lst (bL bs))) (view H (.lst (bL bs))) = some c ∧ P c := ⟨false, by show (eqD _ _).map _ = _; rw [show view H (.lst (bL bs)) = .lst (bL bs) from rfl, eqD_bL]; rfl, q⟩
theorem ex_neBool {a b : Bool} (q : P (!(a == b))) : ∃ c, cmpD .NotEq (view H (.bool a)) (view H (.bool b)) = some c ∧ P c := ⟨!(a == b), by cases a <;> cases b <;> rfl, q⟩
theorem ex_rangeI {k : Int} (h0 : 0 ≤ k) (h1 : k ≤ 1000000) (q : Q (.rng k.toNat)) : ∃ d, tyD "range" (List.map (view H) [.int k]) = some d ∧ Q d :=
  ⟨.rng k.toNat, by
    show (if small k then some (D.rng k.toNat) else none) = _
    rw [if_pos (by unfold small; rw [decide_eq_true_eq]; omega)], q⟩
theorem ex_item {a : Int} (q : ∀ v, tiny v = true → Q (.int v)) : ∃ d, idxD (view H (.tup [.int 0, .int 1, .int 2, .int 3, .int 13, .int 14, .int 15, .int 255, .int 256, .int (-1)])) (.int (a.fmod 10)) = some d ∧ Q d := by
  have h0 : 0 ≤ a.fmod 10 := Int.fmod_nonneg_of_pos _ (by decide)
  have h1 : a.fmod 10 < 10 := Int.fmod_lt_of_pos _ (by decide)
  have hk : (a.fmod 10).toNat < [0, 1, 2, 3, 13, 14, 15, 255, 256, (-1 : Int)].length := (Int.toNat_lt h0).mpr h1
  refine ⟨.int ([0, 1, 2, 3, 13, 14, 15, 255, 256, (-1 : Int)][(a.fmod 10).toNat]), ?_, q _ (List.all_eq_true.mp (by decide : [0, 1, 2, 3, 13, 14, 15, 255, 256, (-1 : Int)].all tiny = true) _ (List.getElem_mem _))⟩
  show (if 0 ≤ a.fmod 10 then (List.map D.int [0, 1, 2, 3, 13, 14, 15, 255, 256, (-1 : Int)])[(a.fmod 10).toNat]? else none) = _
  rw [if_pos h0, List.getElem?_map, List.getElem?_eq_getElem hk]; rfl
theorem ex_pAtL {k : Nat} {st : List (Int × List Int)} {p : Int × List Int} (hk : st[k]? = some p) (q : Q (.tup [.int p.1, .lst (iL p.2)])) : ∃ d, idxD (view H (.lst (pL st))) (.int (k : Int)) = some d ∧ Q d :=
  ⟨_, by
    show (if 0 ≤ (k : Int) then (pL st)[(k : Int).toNat]? else none) = _
    rw [if_pos (by omega)]
    show (pL st)[k]? = _
    unfold pL; rw [List.getElem?_map, hk]; rfl, q⟩
end

theorem pairs_pL : ∀ st : List (Int × List Int), pairsOf (pL st) = some (st.map fun q => (q.1, .lst (iL q.2)))
  | [] => rfl
  | q :: st => by
    show pairsOf (.tup [.int q.1, .lst (iL q.2)] :: pL st) = _
    show (pairsOf (pL st)).map _ = _
    rw [pairs_pL st]; rfl
theorem put_new {es : List (Int × D)} {k : Int} {d : D} (h : ∀ e ∈ es, e.1 ≠ k) : putI k d es = es ++ [(k, d)] := by
  unfold putI
  rw [if_neg]
  intro z
  obtain ⟨e, he, z⟩ := List.any_eq_true.mp z
  exact h e he (of_decide_eq_true z)
theorem fold_new : ∀ (ps es : List (Int × D)), ((es ++ ps).map (·.1)).Nodup → ps.foldl (fun es p => putI p.1 p.2 es) es = es ++ ps
  | [], es, _ => by simp
  | p :: ps, es, h => by
    have hp : ∀ e ∈ es, e.1 ≠ p.1 := by
      intro e he z
      rw [List.map_append, List.nodup_append] at h
      exact h.2.2 e.1 (List.mem_map_of_mem he) p.1 (by simp) z
    rw [List.foldl_cons, put_new hp, fold_new ps _ (by rw [List.append_assoc]; exact h), List.append_assoc]; rfl
theorem dict_pL {st : List (Int × List Int)} (h : (namesOf st).Nodup) : (st.map fun q => (q.1, D.lst (iL q.2))).foldl (fun es p => putI p.1 p.2 es) [] = st.map fun q => (q.1, D.lst (iL q.2)) := by
  rw [fold_new]
  · rfl
  · rw [List.nil_append, List.map_map]; exact h
theorem look_eq (k : Int) (b : List Int) : ∀ st : List (Int × List Int), ((st.map fun q => (q.1, D.lst (iL q.2))).lookup k).getD (.lst (iL b)) = .lst (iL (look st k b))
  | [] => rfl
  | q :: st => by
    have ih := look_eq k b st
    rw [List.map_cons, List.lookup_cons]
    unfold look at ih ⊢
    rw [List.find?_cons]
    by_cases h : k = q.1
    · rw [show (k == q.1) = true from beq_iff_eq.mpr h, show (q.1 == k) = true from beq_iff_eq.mpr h.symm]; rfl
    · rw [show (k == q.1) = false from beq_eq_false_iff_ne.mpr h, show (q.1 == k) = false from beq_eq_false_iff_ne.mpr (Ne.symm h)]
      exact ih

noncomputable def wL (ops : List (Nat × List Int)) : List D := ops.map fun o => .tup [.int (o.1 : Int), .lst (iL o.2)]
theorem wL_len (ops : List (Nat × List Int)) : (wL ops).length = ops.length := by simp [wL]
theorem wL_app (a b : List (Nat × List Int)) : wL (a ++ b) = wL a ++ wL b := by simp [wL]
theorem wL_take (ops : List (Nat × List Int)) (n : Nat) : (wL ops).take n = wL (ops.take n) := by simp [wL, List.map_take]
theorem wL_at {ops : List (Nat × List Int)} {k : Nat} {d : D} (h : (wL ops)[k]? = some d) : ∃ o, d = .tup [.int (o.1 : Int), .lst (iL o.2)] ∧ ops[k]? = some o := by
  unfold wL at h
  rw [List.getElem?_map] at h
  obtain ⟨o, h1, h2⟩ := Option.map_eq_some_iff.mp h
  exact ⟨o, h2.symm, h1⟩

theorem bL_cutHi (bs : List (List Int)) (i : Int) : cutL (bL bs) none (some i) = bL (bs.take i.toNat) := by
  show (bL bs).take i.toNat = _
  unfold bL; rw [List.map_take]
theorem bL_cutLo (bs : List (List Int)) (i : Int) : cutL (bL bs) (some i) none = bL (bs.drop i.toNat) := by
  show (bL bs).drop i.toNat = _
  unfold bL; rw [List.map_drop]
theorem bL_app (a b : List (List Int)) : bL (a ++ b) = bL a ++ bL b := by simp [bL]

theorem homes_wL {m : Nat} {st : List (Int × List Int)} (h : ∀ q ∈ st, 0 ≤ q.1) : wL (homes m st) = st.map fun q => .tup [.int (1 + (m : Int) + q.1), .lst (iL q.2)] := by
  unfold wL homes
  rw [List.map_map]
  refine List.map_congr_left fun q hq => ?_
  have := h q hq
  show D.tup [.int (((1 + (m : Int) + q.1).toNat : Nat) : Int), .lst (iL q.2)] = _
  rw [Int.toNat_of_nonneg (by omega)]
theorem log_wL (st : List (Int × List Int)) : wL (logOps st) = (List.range st.length).map fun (k : Nat) => .tup [.int (1 + (k : Int)), .lst (iL (st.getD k (0, [])).2)] := by
  unfold wL logOps
  rw [List.map_map]
  refine List.map_congr_left fun k hk => ?_
  show D.tup [.int (((1 + k : Nat)) : Int), _] = _
  rw [Int.natCast_add]; rfl
theorem law_wL {m : Nat} {st : List (Int × List Int)} (h : ∀ q ∈ st, 0 ≤ q.1) : wL (lawOps m st) = (((List.range st.length).map fun (k : Nat) => D.tup [.int (1 + (k : Int)), .lst (iL (st.getD k (0, [])).2)]) ++ [.tup [.int 0, .lst (iL (hdrOf st))]] ++ (st.map fun q => D.tup [.int (1 + (m : Int) + q.1), .lst (iL q.2)])) ++ [.tup [.int 0, .lst (iL (List.replicate 16 0))]] := by
  unfold lawOps firstOps
  rw [wL_app, wL_app, wL_app, log_wL, homes_wL h, sealed_zero, List.append_assoc, List.append_assoc, List.append_assoc]
  rfl

/-- the law's body -/
@[irreducible] noncomputable def lawBody (w : World) (s : Shared) : List Stmt := bodyAt (mkG w s).K 373
theorem lawBody_eq (w : World) (s : Shared) : lawBody w s = bodyAt (mkG w s).K 373 := by unfold lawBody; rfl

theorem go_drop {w : World} {s : Shared} {p : Pg} {nm : List (Str × NameKind)} {loc : Loc} {H : Hp} {Q : Fl → Loc → Hp → Prop} {X : Value → Loc → Hp → Prop} (a : Nat) {st : Stmt} (h : (bodyAt (mkG w s).K 373)[a]? = some st)
    (q : awSs p nm (st :: List.drop (a + 1) (lawBody w s)) loc H Q X) : awSs p nm (List.drop a (lawBody w s)) loc H Q X := by
  rw [← lawBody_eq] at h
  obtain ⟨h1, h2⟩ := List.getElem?_eq_some_iff.mp h
  rw [List.drop_eq_getElem_cons h1, h2]
  exact q

/-- from statement a on, the law returns True -/
noncomputable def LawGo (w : World) (s : Shared) (a : Nat) (loc : Loc) (H : Hp) : Prop := ∀ (Q : Fl → Loc → Hp → Prop) (X : Value → Loc → Hp → Prop), (∀ loc H, Q (.ret (.bool true)) loc H) →
  awSs (pg (mkG w s) 19) (fnAt (mkG w s).K 373).scope.names (List.drop a (lawBody w s)) loc H Q X

theorem ex_sc {H : Hp} {Q : D → Prop} {ns : List Int} {k : Int} (h : 20 ≤ ns.length) (hk : decide (0 ≤ k ∧ k < 20) = true) (q : Q (.int (ns.getD k.toNat 0))) : ∃ d, idxD (view H (.lst (iL ns))) (.int k) = some d ∧ Q d := by
  have hk := of_decide_eq_true hk
  refine ex_idx hk.1 ?_ q
  rw [List.getElem?_eq_getElem (show k.toNat < ns.length by omega), List.getD_eq_getElem?_getD, List.getElem?_eq_getElem (show k.toNat < ns.length by omega)]; rfl

noncomputable def L0 (a1 a2 a3 a4 a5 a6 a7 a8 a9 a10 a11 : D) (tl : Loc) : Loc := (Str.ofString "script", a1) :: (Str.ofString "kb", a2) :: (Str.ofString "vb", a3) :: (Str.ofString "key", a4) :: (Str.ofString "value", a5) :: (Str.ofString "targets", a6) :: (Str.ofString "kept", a7) :: (Str.ofString "full", a8) :: (Str.ofString "other", a9) :: (Str.ofString "empty", a10) :: (Str.ofString "head", a11) :: tl
noncomputable def LB (a1 a2 a3 a4 : D) (tl : Loc) : Loc := (Str.ofString "good", a1) :: (Str.ofString "bad", a2) :: (Str.ofString "worn", a3) :: (Str.ofString "both", a4) :: tl
noncomputable def LC (a1 a2 a3 a4 a5 a6 a7 : D) (tl : Loc) : Loc := (Str.ofString "log", a1) :: (Str.ofString "budget", a2) :: (Str.ofString "image", a3) :: (Str.ofString "twin", a4) :: (Str.ofString "disk", a5) :: (Str.ofString "store", a6) :: (Str.ofString "staged", a7) :: tl
noncomputable def LS (a1 a2 a3 a4 : D) (tl : Loc) : Loc := (Str.ofString "s", a1) :: (Str.ofString "body", a2) :: (Str.ofString "after", a3) :: (Str.ofString "refused", a4) :: tl
noncomputable def LD (a1 a2 a3 a4 a5 a6 : D) (tl : Loc) : Loc := (Str.ofString "laid", a1) :: (Str.ofString "names", a2) :: (Str.ofString "named", a3) :: (Str.ofString "writes", a4) :: (Str.ofString "made", a5) :: (Str.ofString "now", a6) :: tl

/-- the image that the law builds -/
noncomputable def imageOf (m : Nat) (bad other empty : List Int) : List (List Int) := List.replicate (m + 1) (List.replicate 16 0) ++ [bad, other, empty]
theorem image_len (m : Nat) (bad other empty : List Int) : (imageOf m bad other empty).length = m + 4 := by unfold imageOf; simp
/-- a lawful block of a slot -/
noncomputable def SlotB (b : List Int) : Prop := b ≠ [] ∧ decodeSlot b ≠ none
noncomputable def StagedOk (q : Int × List Int) : Prop := 0 ≤ q.1 ∧ q.1 < 3 ∧ SlotB q.2

local macro_rules | `(tactic| k_all) => `(tactic| ((with_reducible refine' ex_sc ?k1 ?k2 ?_); (case k1 => assumption); (case k2 => exact rfl)))



theorem segH {w : World} {s : Shared} (B : Bs w s) {x1 x2 x3 x4 x5 x6 x7 x8 x9 x10 x11 b1 b2 b3 b4 s1 s2 s3 s4 c2 c3 c4 c6 c7 l1 l2 l3 l4 l5 : D} {ext : Loc} (hext : ext = [] ∨ ∃ d, ext = [(Str.ofString "i", d)]) {lo : D} {m : Nat} {H : Hp} {id ib : Nat} {now : List (List Int)} {bu wr : Int} {b0 T : List Int} (hD : DiskAt H id ib now bu wr) (hl : now.length = m + 4) (hm : m ≤ 3) (hne : ∀ b ∈ now, b ≠ []) (h0 : now[0]? = some b0) (hT : headD b0 = .lst (iL T)) (hTl : T.length ≤ 100) :
    LawGo w s 45 (L0 x1 x2 x3 x4 x5 x6 x7 x8 x9 x10 x11 (LB b1 b2 b3 b4 (LC (.int (m : Int)) c2 c3 c4 (.inst 163 id) c6 c7 (LS s1 s2 s3 s4 (LD l1 l2 l3 l4 l5 (.lst (bL now)) (ext ++ [(Str.ofString "lost", lo), (Str.ofString "pending", .lst (iL T))])))))) H := by
  intro Q X hq
  conv in (Scope.names _) => whnf
  have hext0 := hext
  rcases hext with rfl | ⟨d, rfl⟩
  all_goals (
    refine go_drop 45 rfl ?_
    repeat k_all
    refine ⟨⟨_, hD.d, rfl⟩, _, rfl, ?_⟩
    repeat k_all
    refine cw_read B 18 hD (by decide) h0 ?_
    repeat k_all
    refine cw_header_read B 16 ?_
    repeat k_all
    rw [hT]
    refine cw_same B 18 (plain_iL (by omega)) ?_
    repeat k_all
    refine cw_Vault B 17 fun H' hV' hlen' hk' => ?_
    have hD' : DiskAt H' id ib now bu wr := ⟨by rw [hk' id (List.getElem?_eq_some_iff.mp hD.d).1]; exact hD.d, by rw [hk' ib (List.getElem?_eq_some_iff.mp hD.b).1]; exact hD.b, hD.ne⟩
    repeat k_all
    rw [bL_cutLo]
    repeat k_all
    refine cw_store_tells B 15 hV' hD' (by omega) (fun k hk => ?_) ?_
    · have hb : now[(1 + (m : Int) + (k : Int)).toNat]? = some (now[(1 + (m : Int) + (k : Int)).toNat]'(by omega)) := List.getElem?_eq_getElem _
      refine ⟨_, _, ?_, hne _ (List.getElem_mem (by omega)), hb, fun q hq => (by cases hq), fun _ => rfl⟩
      rw [List.getElem?_drop, show (1 + (m : Int)).toNat + k = (1 + (m : Int) + (k : Int)).toNat by omega]; exact hb
    repeat k_all
    refine go_drop 46 rfl ?_
    repeat k_all
    exact hq _ _)

theorem segG {w : World} {s : Shared} (B : Bs w s) {x1 x2 x3 x4 x5 x6 x7 x8 x9 x10 x11 b1 b2 b3 b4 s1 s2 s3 s4 c2 c6 c7 l1 l3 : D} {ext : Loc} (hext : ext = [] ∨ ∃ d, ext = [(Str.ofString "i", d)]) {lo : D} {m : Nat} {H : Hp} {id ib : Nat} {bs now : List (List Int)} {ops : List (Nat × List Int)} {nm : List Int} {bu made : Int} {b0 : List Int} (hD : DiskAt H id ib now bu made) (hl : now.length = m + 4) (hm : m ≤ 3) (hne : ∀ b ∈ now, b ≠ []) (h0 : now[0]? = some b0)
    (hT : headD b0 = .lst (iL (if (nm.length : Int) < made ∧ made < (ops.length : Int) then nm else []))) (hn : nm.length ≤ 100) :
    LawGo w s 43 (L0 x1 x2 x3 x4 x5 x6 x7 x8 x9 x10 x11 (LB b1 b2 b3 b4 (LC (.int (m : Int)) c2 (.lst (bL bs)) (.lst (bL bs)) (.inst 163 id) c6 c7 (LS s1 s2 s3 s4 (LD l1 (.lst (iL nm)) l3 (.lst (wL ops)) (.int made) (.lst (bL now)) (ext ++ [(Str.ofString "lost", lo)])))))) H := by
  intro Q X hq
  conv in (Scope.names _) => whnf
  have f1 : (made == made) = true := beq_self_eq_true _
  have hext0 := hext
  rcases hext with rfl | ⟨d, rfl⟩
  all_goals (
    refine go_drop 43 rfl ?_
    repeat k_all
    refine ⟨⟨_, hD.d, rfl⟩, _, rfl, ?_⟩
    repeat k_all
    refine cw_image B 18 hD (by omega) ?_
    repeat k_all
    refine ex_neB ?_
    repeat k_all
    refine ex_attr hD.d rfl rfl ?_
    repeat k_all
    refine ex_neB ?_
    repeat k_all
    refine go_drop 44 rfl ?_
    repeat k_all
    by_cases h1 : ((iL nm).length : Int) < made
    · have g1 : decide (((iL nm).length : Int) < made) = true := decide_eq_true h1
      repeat k_all
      by_cases h2 : made < ((wL ops).length : Int)
      · have g2 : decide (made < ((wL ops).length : Int)) = true := decide_eq_true h2
        repeat k_all
        exact segH B hext0 hD hl hm hne h0 (by rw [hT, if_pos ⟨by rw [iL_len] at h1; exact h1, by rw [wL_len] at h2; exact h2⟩]) (by omega) Q X hq
      · have g2 : decide (made < ((wL ops).length : Int)) = false := decide_eq_false h2
        repeat k_all
        exact segH (T := []) B hext0 hD hl hm hne h0 (by rw [hT, if_neg fun z => h2 (by rw [wL_len]; exact z.2)]) (by simp) Q X hq
    · have g1 : decide (((iL nm).length : Int) < made) = false := decide_eq_false h1
      repeat k_all
      exact segH (T := []) B hext0 hD hl hm hne h0 (by rw [hT, if_neg fun z => h1 (by rw [iL_len]; exact z.1)]) (by simp) Q X hq)

theorem segF {w : World} {s : Shared} (B : Bs w s) {x1 x2 x3 x4 x5 x6 x7 x8 x9 x10 x11 b1 b2 b3 b4 s1 s2 s3 s4 c2 c7 l1 l3 : D} {ext : Loc} (hext : ext = [] ∨ ∃ d, ext = [(Str.ofString "i", d)]) {m : Nat} {H : Hp} {id ib iv is : Nat} {bs now : List (List Int)} {ops : List (Nat × List Int)} {nm : List Int} {bu made : Int} {b0 : List Int} {st : List (Int × List Int)} {lost : Bool} (hV : VaultAt H iv id is 3 m st lost) (hst : lost = false → st = []) (hlost : (lost == decide (made < (ops.length : Int))) = true)
    (hD : DiskAt H id ib now bu made) (hl : now.length = m + 4) (hm : m ≤ 3) (hne : ∀ b ∈ now, b ≠ []) (h0 : now[0]? = some b0)
    (hT : headD b0 = .lst (iL (if (nm.length : Int) < made ∧ made < (ops.length : Int) then nm else []))) (hn : nm.length ≤ 100) :
    LawGo w s 41 (L0 x1 x2 x3 x4 x5 x6 x7 x8 x9 x10 x11 (LB b1 b2 b3 b4 (LC (.int (m : Int)) c2 (.lst (bL bs)) (.lst (bL bs)) (.inst 163 id) (.inst 282 iv) c7 (LS s1 s2 s3 s4 (LD l1 (.lst (iL nm)) l3 (.lst (wL ops)) (.int made) (.lst (bL now)) (ext ++ [(Str.ofString "lost", .bool lost)])))))) H := by
  intro Q X hq
  conv in (Scope.names _) => whnf
  have f1 : (lost == lost) = true := beq_self_eq_true _
  have f2 : (lost == decide (made < ((wL ops).length : Int))) = true := by rw [wL_len]; exact hlost
  have hext0 := hext
  rcases hext with rfl | ⟨d, rfl⟩
  all_goals (
    refine go_drop 41 rfl ?_
    repeat k_all
    refine ex_attr hV.v rfl rfl ?_
    repeat k_all
    refine ex_attr hV.v rfl rfl ?_
    repeat k_all
    refine go_drop 42 rfl ?_
    cases lost with
    | true =>
      repeat k_all
      exact segG B hext0 hD hl hm hne h0 hT hn Q X hq
    | false =>
      have es := hst rfl
      subst es
      repeat k_all
      refine ex_attr hV.v rfl rfl ?_
      repeat k_all
      have ev : view H (.mref is) = .lst [] := view_m hV.s
      refine ⟨false, by rw [ev]; rfl, ?_⟩
      repeat k_all
      exact segG B hext0 hD hl hm hne h0 hT hn Q X hq)

theorem segE {w : World} {s : Shared} (B : Bs w s) {x1 x2 x3 x4 x5 x6 x7 x8 x9 x10 x11 b1 b2 b3 b4 s1 s2 s3 s4 c7 l1 l3 : D} {ext : Loc} (hext : ext = [] ∨ ∃ d, ext = [(Str.ofString "i", d)]) {m : Nat} {H : Hp} {id ib iv is : Nat} {bs : List (List Int)} {st : List (Int × List Int)} {bu : Int} (hV : VaultAt H iv id is 3 m st false) (hD : DiskAt H id ib bs bu 0) (hv : iv ≠ id ∧ iv ≠ ib ∧ is ≠ id ∧ is ≠ ib) (hm : m ≤ 3) (hbu : 0 ≤ bu) (hg : Good StagedOk st) (hls : st.length ≤ m)
    (hl : bs.length = m + 4) (hne : ∀ b ∈ bs, b ≠ []) (h0 : bs[0]? = some (List.replicate 16 0)) :
    LawGo w s 39 (L0 x1 x2 x3 x4 x5 x6 x7 x8 x9 x10 x11 (LB b1 b2 b3 b4 (LC (.int (m : Int)) (.int bu) (.lst (bL bs)) (.lst (bL bs)) (.inst 163 id) (.inst 282 iv) c7 (LS s1 s2 s3 s4 (LD l1 (.lst (iL (namesOf st))) l3 (.lst (wL (lawOps m st))) (.int (min bu ((lawOps m st).length : Int))) (.lst (bL (app bs ((lawOps m st).take (min bu ((lawOps m st).length : Int)).toNat)))) ext))))) H := by
  intro Q X hq
  conv in (Scope.names _) => whnf
  have hq0 : ∀ q ∈ st, 0 ≤ q.1 := fun q z => (hg.2 q z).1
  have hlen := lawOps_len (m : Int) st
  have hnow : ∀ k, (app bs ((lawOps m st).take k)).length = m + 4 := fun k => by rw [app_len]; exact hl
  have hnne : ∀ k, ∀ b ∈ app bs ((lawOps m st).take k), b ≠ [] := fun k => ne_of (P := fun _ => True) hne fun o ho => lawOps_full (fun q z => (hg.2 q z).2.2.1) o (List.mem_of_mem_take ho)
  have hnames : (namesOf st).length = st.length := by simp [namesOf]
  have hzero : headD (List.replicate 16 0) = .lst (iL []) := by rfl
  have hhdr : headD (hdrOf st) = .lst (iL (namesOf st)) := by
    unfold headD hdrOf
    rw [← hnames, decode_head]
    · unfold bytesOk
      rw [List.all_eq_true]
      intro x hx
      obtain ⟨q, hq, rfl⟩ := List.mem_map.mp hx
      have := hg.2 q hq
      exact decide_eq_true ⟨this.1, by have := this.2.1; omega⟩
    · omega
  have hhead : ∃ b0, (app bs ((lawOps m st).take (min bu ((lawOps m st).length : Int)).toNat))[0]? = some b0 ∧ headD b0 = .lst (iL (if ((namesOf st).length : Int) < min bu ((lawOps m st).length : Int) ∧ min bu ((lawOps m st).length : Int) < ((lawOps m st).length : Int) then namesOf st else [])) := by
    by_cases c1 : ((namesOf st).length : Int) < min bu ((lawOps m st).length : Int)
    · by_cases c2 : min bu ((lawOps m st).length : Int) < ((lawOps m st).length : Int)
      · refine ⟨_, block0_mid (by omega) hq0 (by omega) (by omega) (by omega), ?_⟩
        rw [if_pos ⟨c1, c2⟩]; exact hhdr
      · refine ⟨sealedP [0], ?_, ?_⟩
        · rw [List.take_of_length_le (by omega)]; exact block0_top (by omega)
        · rw [if_neg fun z => c2 z.2, sealed_zero]; exact hzero
    · refine ⟨_, (block0_low (by omega)).trans h0, ?_⟩
      rw [if_neg fun z => c1 z.1]; exact hzero
  obtain ⟨b0, hb0, hT⟩ := hhead
  have hext0 := hext
  rcases hext with rfl | ⟨d, rfl⟩
  all_goals (
    refine go_drop 39 rfl ?_
    repeat k_all
    refine go_drop 40 rfl ?_
    repeat k_all
    refine ⟨⟨_, hV.v, rfl⟩, _, rfl, ?_⟩
    repeat k_all
    refine cw_commit B 15 hV hD hv (by omega) (fun q z => ?_) (by omega) (by omega) (by omega) hbu (fun hlt H' hD' hV' => ?_) (fun hge H' is' hD' hV' => ?_)
    · have := hg.2 q z
      exact ⟨this.1, by have h1 := this.1; have h2 := this.2.1; omega, by have := this.2.1; omega⟩
    · repeat k_all
      rw [show min bu ((lawOps m st).length : Int) = bu by omega] at hb0 hT ⊢
      rw [Int.zero_add] at hD'
      exact segF (lost := true) B hext0 hV' (fun z => by cases z) (by rw [decide_eq_true hlt]; rfl) hD' (hnow _) hm (hnne _) hb0 hT (by omega) Q X hq
    · repeat k_all
      rw [show min bu ((lawOps m st).length : Int) = ((lawOps m st).length : Int) by omega] at hb0 hT ⊢
      rw [Int.zero_add] at hD'
      rw [Int.toNat_natCast, List.take_length] at hb0 ⊢
      have hnow' := hnow (lawOps m st).length
      have hnne' := hnne (lawOps m st).length
      rw [List.take_length] at hnow' hnne'
      exact segF (lost := false) B hext0 hV' (fun _ => rfl) (by rw [decide_eq_false (by omega)]; rfl) hD' hnow' hm hnne' hb0 hT (by omega) Q X hq)

theorem DiskAt.app {H T : Hp} {id ib : Nat} {bs : List (List Int)} {bu wr : Int} (h : DiskAt H id ib bs bu wr) : DiskAt (H ++ T) id ib bs bu wr :=
  ⟨by rw [List.getElem?_append_left (List.getElem?_eq_some_iff.mp h.d).1]; exact h.d, by rw [List.getElem?_append_left (List.getElem?_eq_some_iff.mp h.b).1]; exact h.b, h.ne⟩
theorem VaultAt.app {H T : Hp} {iv id is : Nat} {n m : Int} {st : List (Int × List Int)} {dead : Bool} (h : VaultAt H iv id is n m st dead) : VaultAt (H ++ T) iv id is n m st dead :=
  ⟨by rw [List.getElem?_append_left (List.getElem?_eq_some_iff.mp h.v).1]; exact h.v, by rw [List.getElem?_append_left (List.getElem?_eq_some_iff.mp h.s).1]; exact h.s, h.ne⟩

theorem ex_dict {H : Hp} {Q : D → Hp → Prop} {st : List (Int × List Int)} (h : (namesOf st).Nodup) (hl : st.length ≤ 1000) (q : Q (.mref H.length) (H ++ [.dic (st.map fun q => (q.1, D.lst (iL q.2)))])) : dictW (List.map (view H) [.lst (pL st)]) H Q :=
  ⟨_, pairs_pL st, by simpa using hl, by rw [dict_pL h]; exact q⟩

theorem image_at {m k : Nat} {bad other empty : List Int} : (imageOf m bad other empty)[(1 + (m : Int) + (k : Int)).toNat]? = [bad, other, empty][k]? := by
  unfold imageOf
  rw [List.getElem?_append_right (by simp; omega)]
  simp only [List.length_replicate]
  congr 1; omega

theorem look_ok {st : List (Int × List Int)} (hg : Good StagedOk st) {k : Int} {c : List Int} (hc : c ≠ []) : look st k c ≠ [] ∧ (∀ q, st.find? (fun q => q.1 == k) = some q → q.2 = look st k c ∧ decodeSlot (look st k c) ≠ none) ∧ (st.find? (fun q => q.1 == k) = none → c = look st k c) := by
  unfold look
  cases hf : st.find? (fun q => q.1 == k) with
  | none => exact ⟨hc, fun q z => (by cases z), fun _ => rfl⟩
  | some q =>
    have := (hg.2 q (List.mem_of_find?_eq_some hf)).2.2
    exact ⟨this.1, fun q' z => by cases z; exact ⟨rfl, this.2⟩, fun z => by cases z⟩

theorem segD {w : World} {s : Shared} (B : Bs w s) {x1 x2 x3 x4 x5 x6 x7 x8 x11 b1 b3 b4 s1 s2 s3 s4 : D} {m : Nat} {bu : Int} {H : Hp} {id ib iv is : Nat} {bad other empty : List Int} {st : List (Int × List Int)} (hV : VaultAt H iv id is 3 m st false) (hD : DiskAt H id ib (imageOf m bad other empty) bu 0) (hv : iv ≠ id ∧ iv ≠ ib ∧ is ≠ id ∧ is ≠ ib) (hm : m ≤ 3) (hbu : 0 ≤ bu)
    (hg : Good StagedOk st) (hl : st.length ≤ m) (hb : bad ≠ []) (ho : SlotB other) (he : SlotB empty) :
    LawGo w s 31 (L0 x1 x2 x3 x4 x5 x6 x7 x8 (.lst (iL other)) (.lst (iL empty)) x11 (LB b1 (.lst (iL bad)) b3 b4 (LC (.int (m : Int)) (.int bu) (.lst (bL (imageOf m bad other empty))) (.lst (bL (imageOf m bad other empty))) (.inst 163 id) (.inst 282 iv) (.lst (pL st)) (LS s1 s2 s3 s4 [])))) H := by
  intro Q X hq
  conv in (Scope.names _) => whnf
  refine go_drop 31 rfl ?_
  repeat k_all
  refine ex_dict hg.1 (by omega) ?_
  have hV1 := hV.app (T := [.dic (st.map fun q => (q.1, D.lst (iL q.2)))])
  have hD1 := hD.app (T := [.dic (st.map fun q => (q.1, D.lst (iL q.2)))])
  have hd1 : (H ++ [AObj.dic (st.map fun q => (q.1, D.lst (iL q.2)))])[H.length]? = some (.dic (st.map fun q => (q.1, D.lst (iL q.2)))) := by simp
  generalize H ++ [AObj.dic (st.map fun q => (q.1, D.lst (iL q.2)))] = H1 at hV1 hD1 hd1 ⊢
  generalize H.length = il at hd1 ⊢
  repeat k_all
  refine go_drop 32 rfl ?_
  repeat k_all
  refine go_CallG rfl rfl ⟨⟨_, hd1⟩, rfl, ?_⟩
  repeat k_all
  refine ⟨_, _, _, hd1, rfl, ?_⟩
  rw [look_eq]
  repeat k_all
  refine go_CallG rfl rfl ⟨⟨_, hd1⟩, rfl, ?_⟩
  repeat k_all
  refine ⟨_, _, _, hd1, rfl, ?_⟩
  rw [look_eq]
  repeat k_all
  refine go_CallG rfl rfl ⟨⟨_, hd1⟩, rfl, ?_⟩
  repeat k_all
  refine ⟨_, _, _, hd1, rfl, ?_⟩
  rw [look_eq]
  repeat k_all
  refine cw_store_tells B 15 (hs := [look st 0 bad, look st 1 other, look st 2 empty]) hV1 hD1 (by omega) (fun k hk => ?_) ?_
  · have := image_at (m := m) (k := k) (bad := bad) (other := other) (empty := empty)
    match k, hk with
    | 0, _ => exact ⟨_, _, rfl, (look_ok hg hb).1, this, (look_ok hg hb).2⟩
    | 1, _ => exact ⟨_, _, rfl, (look_ok hg ho.1).1, this, (look_ok hg ho.1).2⟩
    | 2, _ => exact ⟨_, _, rfl, (look_ok hg he.1).1, this, (look_ok hg he.1).2⟩
  repeat k_all
  refine go_drop 33 rfl ?_
  repeat k_all
  refine ⟨by rw [pL_len]; omega, ?_⟩
  refine compW_map (fun x => match x with | .tup (d :: _) => d | d => d) (fun x hx a K hk => ?_) (fun x hx a K hk => ?_) (fun x hx => ?_) ?_
  · repeat k_all
    exact hk
  · obtain ⟨q, _, rfl⟩ := List.mem_map.mp hx
    repeat k_all
    exact hk
  · obtain ⟨q, _, rfl⟩ := List.mem_map.mp hx
    rfl
  rw [List.nil_append, show (pL st).map (fun x => match x with | .tup (d :: _) => d | d => d) = iL (namesOf st) from by unfold pL iL namesOf; rw [List.map_map, List.map_map]; rfl]
  repeat k_all
  refine go_drop 34 rfl ?_
  repeat k_all
  have hnl : ((iL (namesOf st)).length : Int) = (st.length : Int) := by rw [iL_len]; simp [namesOf]
  have hnn : (namesOf st).length = st.length := by simp [namesOf]
  rw [hnl]
  refine ex_addL (by rw [iL_len, hnn]; simp; omega) ?_
  repeat k_all
  refine cw_lseal (l := (st.length : Int) :: namesOf st) B 18 ?_ ?_ ?_
  · rw [List.all_eq_true]
    intro x hx
    rcases List.mem_cons.mp hx with rfl | hx
    · unfold tiny; rw [decide_eq_true_eq]; omega
    · obtain ⟨q, hq, rfl⟩ := List.mem_map.mp hx
      have h1 := (hg.2 q hq).1
      have h2 := (hg.2 q hq).2.1
      unfold tiny; rw [decide_eq_true_eq]; omega
  · rw [List.length_cons, hnn]; omega
  repeat k_all
  refine go_drop 35 rfl ?_
  repeat k_all
  rw [hnl]
  refine ex_rangeI (by omega) (by omega) ?_
  repeat k_all
  refine ⟨by simp; omega, ?_⟩
  refine compW_map (fun d => match d with | .int j => .tup [.int (1 + j), .lst (iL (st.getD j.toNat (0, [])).2)] | d => d) (fun x hx a K hk => ?_) (fun x hx a K hk => ?_) (fun x hx => ?_) ?_
  · repeat k_all
    exact hk
  · obtain ⟨k, hkk, rfl⟩ := List.mem_map.mp hx
    have hkk := List.mem_range.mp hkk
    repeat k_all
    refine ex_pAtL (p := st.getD k (0, [])) ?_ ?_
    · rw [List.getD_eq_getElem?_getD, List.getElem?_eq_getElem (by simpa using hkk)]; rfl
    repeat k_all
    exact hk
  · obtain ⟨k, _, rfl⟩ := List.mem_map.mp hx
    show YV.below _ (.tup [.int _, .lst (iL _)]) = true
    exact Bool.and_eq_true_iff.mpr ⟨below_iL _ _, rfl⟩
  repeat k_all
  refine ex_addL (by simp; omega) ?_
  repeat k_all
  refine ⟨by rw [pL_len]; omega, ?_⟩
  refine compW_map (fun x => match x with | .tup [.int a, d] => .tup [.int (1 + (m : Int) + a), d] | d => d) (fun x hx a K hk => ?_) (fun x hx a K hk => ?_) (fun x hx => ?_) ?_
  · repeat k_all
    exact hk
  · obtain ⟨q, _, rfl⟩ := List.mem_map.mp hx
    repeat k_all
    exact hk
  · obtain ⟨q, _, rfl⟩ := List.mem_map.mp hx
    show YV.below _ (.tup [.int _, .lst (iL _)]) = true
    exact Bool.and_eq_true_iff.mpr ⟨below_iL _ _, rfl⟩
  repeat k_all
  refine ex_addL (by rw [List.nil_append]; simp [pL]; omega) ?_
  repeat k_all
  refine ex_addL (by simp [pL]; omega) ?_
  have ew : ([] ++ List.map (fun d => match d with | .int j => .tup [.int (1 + j), .lst (iL (st.getD j.toNat (0, [])).2)] | d => d) (List.map (fun (i : Nat) => D.int i) (List.range (st.length : Int).toNat)) ++ [.tup [.int 0, .lst (iL (sealedP ((st.length : Int) :: namesOf st)))]] ++ ([] ++ List.map (fun x => match x with | .tup [.int a, d] => .tup [.int (1 + (m : Int) + a), d] | d => d) (pL st)) ++ [.tup [.int 0, .lst (List.replicate (Int.toNat 16) [D.int 0]).flatten]]) = wL (lawOps m st) := by
    rw [law_wL fun q z => (hg.2 q z).1, List.nil_append, List.nil_append, List.map_map]
    unfold pL
    rw [List.map_map]
    rfl
  rw [ew]
  repeat k_all
  refine go_drop 36 rfl ?_
  repeat k_all
  rw [wL_len]
  refine go_drop 37 rfl ?_
  repeat k_all
  refine go_drop 38 rfl ?_
  repeat k_all
  refine ex_cut rfl rfl (part_some (i := min bu ((lawOps m st).length : Int)) (by omega)) ?_
  rw [show cutL (wL (lawOps m st)) none (some (min bu ((lawOps m st).length : Int))) = wL ((lawOps m st).take (min bu ((lawOps m st).length : Int)).toNat) from wL_take _ _]
  repeat k_all
  have hin : ∀ o ∈ (lawOps m st).take (min bu ((lawOps m st).length : Int)).toNat, o.1 < (imageOf m bad other empty).length := fun o z => lawOps_in (fun q y => ⟨(hg.2 q y).1, (hg.2 q y).2.1⟩) hl (image_len _ _ _ _) o (List.mem_of_mem_take z)
  refine forW_rule (fun k loc H => ∃ b ext, (ext = [] ∨ ∃ d, ext = [(Str.ofString "i", d)]) ∧ loc = (L0 x1 x2 x3 x4 x5 x6 x7 x8 (.lst (iL other)) (.lst (iL empty)) x11 (LB b1 (.lst (iL bad)) b3 b4 (LC (.int (m : Int)) (.int bu) (.lst (bL (imageOf m bad other empty))) (.lst (bL (imageOf m bad other empty))) (.inst 163 id) (.inst 282 iv) (.lst (pL st)) (LS s1 b s3 s4
      (LD (.mref il) (.lst (iL (namesOf st))) (.lst (iL (sealedP ((st.length : Int) :: namesOf st)))) (.lst (wL (lawOps m st))) (.int (min bu ((lawOps m st).length : Int))) (.lst (bL (app (imageOf m bad other empty) (((lawOps m st).take (min bu ((lawOps m st).length : Int)).toNat).take k)))) ext))))) ∧ H = H1) ?_ ?_ ⟨_, [], .inl rfl, rfl, rfl⟩
  · intro k d loc H K hi hI kn kc kb kr
    obtain ⟨o, rfl, ho⟩ := wL_at hi
    obtain ⟨b, ext, hext, rfl, rfl⟩ := hI
    have hlen : (app (imageOf m bad other empty) (((lawOps m st).take (min bu ((lawOps m st).length : Int)).toNat).take k)).length = m + 4 := by rw [app_len, image_len]
    have ho1 := hin o (List.mem_of_getElem? ho)
    rw [image_len] at ho1
    have eset : cutL (bL (app (imageOf m bad other empty) (((lawOps m st).take (min bu ((lawOps m st).length : Int)).toNat).take k))) none (some (o.1 : Int)) ++ [.lst (iL o.2)] ++ cutL (bL (app (imageOf m bad other empty) (((lawOps m st).take (min bu ((lawOps m st).length : Int)).toNat).take k))) (some ((o.1 : Int) + 1)) none = bL (app (imageOf m bad other empty) (((lawOps m st).take (min bu ((lawOps m st).length : Int)).toNat).take (k + 1))) := by
      rw [app_take ho, bL_cutHi, bL_cutLo, Int.toNat_natCast, show ((o.1 : Int) + 1).toNat = o.1 + 1 by omega, ← set_eq (by omega), bL_app, bL_app]; rfl
    rcases hext with rfl | ⟨d, rfl⟩
    all_goals (
      refine ⟨_, rfl, ?_⟩
      repeat k_all
      refine ex_addL (by rw [bL_cutHi, bL_len, List.length_take]; simp; omega) ?_
      repeat k_all
      refine ex_addL (by rw [bL_cutHi, bL_cutLo, List.length_append, bL_len, bL_len, List.length_take, List.length_drop]; simp; omega) ?_
      rw [eset]
      repeat k_all
      exact kn _ _ trivial ⟨_, _, .inr ⟨_, rfl⟩, rfl, rfl⟩)
  · intro loc H hI
    obtain ⟨b, ext, hext, rfl, rfl⟩ := hI
    rw [wL_len, List.take_length]
    exact segE B hext hV1 hD1 hv hm hbu hg hl (image_len _ _ _ _) (fun b z => by
      unfold imageOf at z
      rcases List.mem_append.mp z with z | z
      · rw [List.eq_of_mem_replicate z]; simp
      · simp only [List.mem_cons, List.not_mem_nil, or_false] at z
        rcases z with rfl | rfl | rfl
        · exact hb
        · exact ho.1
        · exact he.1) (by unfold imageOf; rfl) Q X hq

theorem turn_items {i0 i1 i2 : Int} {b0 b1 b2 : List Int} (h0 : StagedOk (i0, b0)) (h1 : StagedOk (i1, b1)) (h2 : StagedOk (i2, b2)) {k : Nat} {d : D} (h : [D.tup [.int i0, .lst (iL b0)], .tup [.int i1, .lst (iL b1)], .tup [.int i2, .lst (iL b2)]][k]? = some d) : ∃ i b, d = .tup [.int i, .lst (iL b)] ∧ StagedOk (i, b) := by
  match k, h with
  | 0, h => cases h; exact ⟨_, _, rfl, h0⟩
  | 1, h => cases h; exact ⟨_, _, rfl, h1⟩
  | 2, h => cases h; exact ⟨_, _, rfl, h2⟩
  | k + 3, h => simp at h
theorem pL_cut (st : List (Int × List Int)) (i : Int) : cutL (pL st) none (some i) = pL (st.take i.toNat) := by
  show (pL st).take i.toNat = _
  unfold pL; rw [List.map_take]
theorem mod3 (a : Int) : 0 ≤ a.fmod 3 ∧ a.fmod 3 < 3 := ⟨Int.fmod_nonneg_of_pos _ (by decide), Int.fmod_lt_of_pos _ (by decide)⟩

theorem segC {w : World} {s : Shared} (B : Bs w s) {x2 x3 x4 x5 x6 x7 x11 b1 b3 b4 : D} {ns full other empty bad : List Int} (hs : 20 ≤ ns.length) (hf : SlotB full) (ho : SlotB other) (he : SlotB empty) (hb : bad ≠ []) :
    LawGo w s 23 (L0 (.lst (iL ns)) x2 x3 x4 x5 x6 x7 (.lst (iL full)) (.lst (iL other)) (.lst (iL empty)) x11 (LB b1 (.lst (iL bad)) b3 b4 [])) [] := by
  intro Q X hq
  have next := fun (m : Nat) (bu : Int) (H : Hp) (id ib iv is : Nat) (st : List (Int × List Int)) (s1 s2 s3 s4 : D) (hV : VaultAt H iv id is 3 m st false) (hD : DiskAt H id ib (imageOf m bad other empty) bu 0) (hv : iv ≠ id ∧ iv ≠ ib ∧ is ≠ id ∧ is ≠ ib) (hm : m ≤ 3) (hbu : 0 ≤ bu) (hg : Good StagedOk st) (hl : st.length ≤ m) =>
    segD (x1 := .lst (iL ns)) (x2 := x2) (x3 := x3) (x4 := x4) (x5 := x5) (x6 := x6) (x7 := x7) (x8 := .lst (iL full)) (x11 := x11) (b1 := b1) (b3 := b3) (b4 := b4) (s1 := s1) (s2 := s2) (s3 := s3) (s4 := s4) B hV hD hv hm hbu hg hl hb ho he
  conv in (Scope.names _) => whnf
  refine go_drop 23 rfl ?_
  repeat k_all
  obtain ⟨m, em, hm0, hm⟩ : ∃ m : Nat, 1 + (ns.getD (Int.toNat 15) 0).fmod 3 = (m : Int) ∧ 1 ≤ m ∧ m ≤ 3 := by
    have := mod3 (ns.getD (Int.toNat 15) 0)
    exact ⟨(1 + (ns.getD (Int.toNat 15) 0).fmod 3).toNat, by omega, by omega, by omega⟩
  rw [em]
  refine go_drop 24 rfl ?_
  repeat k_all
  have hbu : 0 ≤ (ns.getD (Int.toNat 19) 0).fmod 9 := Int.fmod_nonneg_of_pos _ (by decide)
  generalize (ns.getD (Int.toNat 19) 0).fmod 9 = bu at hbu ⊢
  refine go_drop 25 rfl ?_
  repeat k_all
  refine ex_rangeI (by omega) (by omega) ?_
  repeat k_all
  refine ⟨by simp; omega, ?_⟩
  refine compW_map (fun _ => .lst (iL (List.replicate 16 0))) (fun x hx a K hk => ?_) (fun x hx a K hk => ?_) (fun x hx => below_iL _ _) ?_
  · repeat k_all
    exact hk
  · repeat k_all
    exact hk
  repeat k_all
  refine ex_addL (by simp; omega) ?_
  have ei : (([] : List D) ++ List.map (fun _ => D.lst (iL (List.replicate 16 0))) ((List.range (1 + (m : Int)).toNat).map fun (i : Nat) => D.int i)) ++ [.lst (iL bad), .lst (iL other), .lst (iL empty)] = bL (imageOf m bad other empty) := by
    unfold imageOf
    rw [bL_app, List.nil_append, List.map_map]
    congr 1
    unfold bL
    rw [List.map_replicate]
    apply List.ext_getElem
    · simp; omega
    · intro j h1 h2; simp
  rw [ei]
  refine go_drop 26 rfl ?_
  repeat k_all
  refine ⟨by rw [bL_len, image_len]; omega, ?_⟩
  refine compW_map (fun x => x) (fun x hx a K hk => ?_) (fun x hx a K hk => ?_) (fun x hx => ?_) ?_
  · repeat k_all
    exact hk
  · obtain ⟨q, _, rfl⟩ := List.mem_map.mp hx
    repeat k_all
    exact hk
  · obtain ⟨q, _, rfl⟩ := List.mem_map.mp hx
    exact below_iL _ _
  rw [List.nil_append, List.map_id']
  refine go_drop 27 rfl ?_
  repeat k_all
  refine cw_Disk B 17 (by rw [image_len]; omega) fun H1 hD1 hl1 _ => ?_
  refine go_drop 28 rfl ?_
  repeat k_all
  refine cw_Vault B 17 fun H2 hV2 hl2 hk2 => ?_
  have hD2 : DiskAt H2 _ _ _ bu 0 := ⟨by rw [hk2 _ (List.getElem?_eq_some_iff.mp hD1.d).1]; exact hD1.d, by rw [hk2 _ (List.getElem?_eq_some_iff.mp hD1.b).1]; exact hD1.b, hD1.ne⟩
  have hv : H1.length ≠ ([] : Hp).length ∧ H1.length ≠ ([] : Hp).length + 1 ∧ H1.length + 1 ≠ ([] : Hp).length ∧ H1.length + 1 ≠ ([] : Hp).length + 1 := by
    have : ([] : Hp).length = 0 := rfl
    omega
  generalize ([] : Hp).length = id at hD2 hv hV2 ⊢
  generalize H1.length = iv at hv hV2 ⊢
  generalize id + 1 = ib at hD2 hv ⊢
  generalize iv + 1 = is at hv hV2 ⊢
  refine go_drop 29 rfl ?_
  repeat k_all
  refine go_drop 30 rfl ?_
  repeat k_all
  refine forW_rule (fun k loc H => ∃ st ext, loc = (L0 (.lst (iL ns)) x2 x3 x4 x5 x6 x7 (.lst (iL full)) (.lst (iL other)) (.lst (iL empty)) x11 (LB b1 (.lst (iL bad)) b3 b4 (LC (.int (m : Int)) (.int bu) (.lst (bL (imageOf m bad other empty))) (.lst (bL (imageOf m bad other empty))) (.inst 163 id) (.inst 282 iv) (.lst (pL st)) ext))) ∧ ((k = 0 ∧ ext = []) ∨ ∃ a b c d, ext = LS a b c d []) ∧ VaultAt H iv id is 3 m st false ∧ DiskAt H id ib (imageOf m bad other empty) bu 0 ∧ Good StagedOk st ∧ st.length ≤ m) ?_ ?_ ⟨[], [], rfl, .inl ⟨rfl, rfl⟩, hV2, hD2, ⟨List.nodup_nil, fun q z => nomatch z⟩, by simp⟩
  · intro k d loc H K hi hI kn kc kb kr
    obtain ⟨i, b, rfl, hib⟩ := turn_items ⟨(mod3 _).1, (mod3 _).2, hf⟩ ⟨(mod3 _).1, (mod3 _).2, he⟩ ⟨(mod3 _).1, (mod3 _).2, ho⟩ hi
    obtain ⟨st, ext, hloc, hext, hV, hD, hg, hl⟩ := hI
    have hext' : ext = [] ∨ ∃ a b c d, ext = LS a b c d [] := hext.imp (fun z => z.2) fun z => z
    rcases hext' with rfl | ⟨y1, y2, y3, y4, rfl⟩
    all_goals (
      subst hloc
      refine ⟨_, rfl, ?_⟩
      repeat k_all
      refine cw_staged B 18 (by omega) ?_
      repeat k_all
      refine ⟨⟨_, hV.v, rfl⟩, _, rfl, ?_⟩
      repeat k_all
      refine cw_stage B 18 hV (by omega) (fun hn hm' => ?_) (fun hn H' hV' hlen' hk' => ?_)
      · obtain ⟨g1, g2⟩ := stage_full (b := b) hg hl hn hm'
        have f : (true == decide ((m : Int) < ((pL (staged2 st i b)).length : Int))) = true := by rw [pL_len, g1, decide_eq_true (by omega)]; rfl
        repeat k_all
        rw [pL_cut, Int.toNat_natCast, g2]
        exact kn _ _ trivial ⟨st, _, rfl, .inr ⟨_, _, _, _, rfl⟩, hV, hD, hg, hl⟩
      · have g1 := staged_eq hg i b
        have g2 := stage_len (b := b) hl hn
        have f : (false == decide ((m : Int) < ((pL (staged2 st i b)).length : Int))) = true := by rw [pL_len, g1, decide_eq_false (by omega)]; rfl
        repeat k_all
        rw [pL_cut, Int.toNat_natCast, g1, List.take_of_length_le g2]
        exact kn _ _ trivial ⟨_, _, rfl, .inr ⟨_, _, _, _, rfl⟩, hV', ⟨by rw [hk' _ (Ne.symm hv.2.2.1)]; exact hD.d, by rw [hk' _ (Ne.symm hv.2.2.2)]; exact hD.b, hD.ne⟩, stage_good hg hib, g2⟩)
  · intro loc H hI
    obtain ⟨st, ext, rfl, hext, hV, hD, hg, hl⟩ := hI
    rcases hext with ⟨z, _⟩ | ⟨y1, y2, y3, y4, rfl⟩
    · cases z
    · exact next m bu H id ib iv is st y1 y2 y3 y4 hV hD hv hm hbu hg hl Q X hq

theorem cw_whole2 {w : World} {s : Shared} (B : Bs w s) (j : Nat) {l : List Int} {H : Hp} {Q : D → Hp → Prop} {X : Value → Hp → Prop} (hne : l ≠ []) (hq : Q (.bool (sealP l)) H) : CW (mkG w s) (j + 2) 323 [.lst (iL l)] H Q X := by
  cases l with
  | nil => exact absurd rfl hne
  | cons x r => exact cw_whole B j hq
theorem mod16 (a : Int) : 0 ≤ a.fmod 16 ∧ a.fmod 16 < 16 := ⟨Int.fmod_nonneg_of_pos _ (by decide), Int.fmod_lt_of_pos _ (by decide)⟩

theorem segB {w : World} {s : Shared} (B : Bs w s) {x2 x3 x4 x5 x6 x7 : D} {ns full other empty head g : List Int} (hs : 20 ≤ ns.length) (hf : SlotB full) (ho : SlotB other) (he : SlotB empty) (hg : g.length = 16) (hgt : g.all tiny = true) (hh : head.length = 16) (hht : head.all tiny = true) :
    LawGo w s 17 (L0 (.lst (iL ns)) x2 x3 x4 x5 x6 x7 (.lst (iL full)) (.lst (iL other)) (.lst (iL empty)) (.lst (iL head)) [(Str.ofString "good", .lst (iL g))]) [] := by
  intro Q X hq
  have next := fun (bad : List Int) (hb : bad ≠ []) (b3 b4 : D) => segC (x2 := x2) (x3 := x3) (x4 := x4) (x5 := x5) (x6 := x6) (x7 := x7) (x11 := .lst (iL head)) (b1 := .lst (iL g)) (b3 := b3) (b4 := b4) B hs hf ho he hb
  conv in (Scope.names _) => whnf
  refine go_drop 17 rfl ?_
  repeat k_all
  refine ex_item fun v1 hv1 => ?_
  repeat k_all
  refine cw_damage B 17 (by omega) hgt hv1 (mod16 _).1 ?_
  have hb := damage_ne (k := (ns.getD (Int.toNat 12) 0).fmod 6) (it := v1) hg (mod16 (ns.getD (Int.toNat 13) 0)).1 (mod16 (ns.getD (Int.toNat 13) 0)).2
  have hbl := damage_len (k := (ns.getD (Int.toNat 12) 0).fmod 6) (it := v1) hg (mod16 (ns.getD (Int.toNat 13) 0)).1 (mod16 (ns.getD (Int.toNat 13) 0)).2
  generalize damageP g _ _ v1 = bad at hb hbl ⊢
  refine go_drop 18 rfl ?_
  repeat k_all
  refine ex_item fun v2 hv2 => ?_
  repeat k_all
  refine cw_damage B 17 (by omega) hht hv2 (mod16 _).1 ?_
  have hw := damage_ne (k := (ns.getD (Int.toNat 12) 0).fmod 6) (it := v2) hh (mod16 (ns.getD (Int.toNat 13) 0)).1 (mod16 (ns.getD (Int.toNat 13) 0)).2
  have hwl := damage_len (k := (ns.getD (Int.toNat 12) 0).fmod 6) (it := v2) hh (mod16 (ns.getD (Int.toNat 13) 0)).1 (mod16 (ns.getD (Int.toNat 13) 0)).2
  generalize damageP head _ _ v2 = worn at hw hwl ⊢
  refine go_drop 19 rfl ?_
  repeat k_all
  refine go_drop 20 rfl ?_
  repeat k_all
  refine cw_seal_holds B 18 ?_
  repeat k_all
  refine cw_seal_holds B 18 ?_
  repeat k_all
  refine cw_whole2 B 17 hb ?_
  repeat k_all
  refine cw_whole2 B 17 hw ?_
  repeat k_all
  refine cw_same B 18 (plain_bools _ _) ?_
  repeat k_all
  refine go_drop 21 rfl ?_
  repeat k_all
  refine cw_slot_read B 16 ?_
  repeat k_all
  refine cw_slot_due B 16 hb ?_
  repeat k_all
  refine cw_same B 18 (plain_slot _) ?_
  repeat k_all
  refine cw_header_read B 16 ?_
  repeat k_all
  refine cw_header_due B 16 hw ?_
  repeat k_all
  refine cw_same B 18 (plain_head (by omega)) ?_
  repeat k_all
  refine go_drop 22 rfl ?_
  repeat k_all
  refine ex_neB (bs := [bad, worn]) ?_
  repeat k_all
  exact next bad hb _ _ Q X hq

noncomputable def tgtsOf (a b : Int) : List Int := (List.range 14).map fun (j : Nat) => (a.fmod 256 + (j : Int) * b.fmod 256).fmod 256
theorem tgts_bytes (a b : Int) (n : Nat) : bytesOk ((tgtsOf a b).take n) = true := by
  apply bytesOk_take
  unfold bytesOk tgtsOf
  rw [List.all_eq_true]
  intro x hx
  obtain ⟨j, _, rfl⟩ := List.mem_map.mp hx
  exact decide_eq_true (fmod_byte _)
theorem tgts_len (a b : Int) (n : Nat) : ((tgtsOf a b).take n).length ≤ 14 := by
  rw [List.length_take]; unfold tgtsOf; simp; omega
theorem four_bytes_ok (a b c d : Int) : bytesOk [byteAt a, byteAt b, byteAt c, byteAt d] = true := by
  simp [bytesOk, byteAt_byte]
theorem body_eq {k0 k1 k2 k3 v0 v1 v2 v3 : Int} (hk : bytesOk [k0, k1, k2, k3] = true) (hv : bytesOk [v0, v1, v2, v3] = true) : slotBody true (num4 [k0, k1, k2, k3]) (num4 [v0, v1, v2, v3]) = [1, k0, k1, k2, k3, v0, v1, v2, v3] := by
  unfold slotBody
  rw [fourB_num4 hk, fourB_num4 hv]; rfl
theorem full_bytes {k0 k1 k2 k3 v0 v1 v2 v3 : Int} (hk : bytesOk [k0, k1, k2, k3] = true) (hv : bytesOk [v0, v1, v2, v3] = true) : bytesOk [1, k0, k1, k2, k3, v0, v1, v2, v3] = true := by
  rw [show ([1, k0, k1, k2, k3, v0, v1, v2, v3] : List Int) = [1] ++ [k0, k1, k2, k3] ++ [v0, v1, v2, v3] from rfl, bytesOk_app, bytesOk_app, hk, hv]; rfl
theorem sealed_bytes {l : List Int} (h : bytesOk l = true) (hl : l.length ≤ 15) : bytesOk (sealedP l) = true := (sealP_parts (sealP_sealed hl h)).2.1

theorem segA {w : World} {s : Shared} (B : Bs w s) {ns : List Int} : LawGo w s 0 [(Str.ofString "script", .lst (iL ns))] [] := by
  intro Q X hq
  have next := fun (x2 x3 x4 x5 x6 x7 : D) (full other empty head g : List Int) (hs : 20 ≤ ns.length) (hf : SlotB full) (ho : SlotB other) (he : SlotB empty) (hg : g.length = 16) (hgt : g.all tiny = true) (hh : head.length = 16) (hht : head.all tiny = true) => segB (x2 := x2) (x3 := x3) (x4 := x4) (x5 := x5) (x6 := x6) (x7 := x7) B hs hf ho he hg hgt hh hht
  conv in (Scope.names _) => whnf
  refine go_drop 0 rfl ?_
  repeat k_all
  by_cases hc : ((iL ns).length : Int) < 20
  · have f : decide (((iL ns).length : Int) < 20) = true := decide_eq_true hc
    repeat k_all
    exact hq _ _
  have f : decide (((iL ns).length : Int) < 20) = false := decide_eq_false hc
  have hs : 20 ≤ ns.length := by rw [iL_len] at hc; omega
  repeat k_all
  clear f hc
  refine go_drop 1 rfl ?_
  repeat k_all
  refine cw_lfour B 18 ?_
  have hk := four_bytes_ok (ns.getD (Int.toNat 0) 0) (ns.getD (Int.toNat 1) 0) (ns.getD (Int.toNat 2) 0) (ns.getD (Int.toNat 3) 0)
  generalize byteAt (ns.getD (Int.toNat 0) 0) = k0 at hk ⊢
  generalize byteAt (ns.getD (Int.toNat 1) 0) = k1 at hk ⊢
  generalize byteAt (ns.getD (Int.toNat 2) 0) = k2 at hk ⊢
  generalize byteAt (ns.getD (Int.toNat 3) 0) = k3 at hk ⊢
  refine go_drop 2 rfl ?_
  repeat k_all
  refine cw_lfour B 18 ?_
  have hv := four_bytes_ok (ns.getD (Int.toNat 4) 0) (ns.getD (Int.toNat 5) 0) (ns.getD (Int.toNat 6) 0) (ns.getD (Int.toNat 7) 0)
  generalize byteAt (ns.getD (Int.toNat 4) 0) = v0 at hv ⊢
  generalize byteAt (ns.getD (Int.toNat 5) 0) = v1 at hv ⊢
  generalize byteAt (ns.getD (Int.toNat 6) 0) = v2 at hv ⊢
  generalize byteAt (ns.getD (Int.toNat 7) 0) = v3 at hv ⊢
  refine go_drop 3 rfl ?_
  repeat k_all
  refine cw_number B 18 hk ?_
  refine go_drop 4 rfl ?_
  repeat k_all
  refine cw_number B 18 hv ?_
  refine go_drop 5 rfl ?_
  repeat k_all
  refine ⟨by simp, ?_⟩
  refine compW_map (fun d => match d with | .int j => .int (((ns.getD (Int.toNat 10) 0).fmod 256 + j * (ns.getD (Int.toNat 11) 0).fmod 256).fmod 256) | d => d) (fun x hx a K hk => ?_) (fun x hx a K hk => ?_) (fun x hx => ?_) ?_
  · repeat k_all
    exact hk
  · obtain ⟨k, hkk, rfl⟩ := List.mem_map.mp hx
    have hkk := List.mem_range.mp hkk
    have hkk : k < 14 := hkk
    repeat k_all
    refine ex_mul (small_of (by omega)) (small_of ?_) ?_
    · have := fmod_byte (ns.getD (Int.toNat 11) 0)
      omega
    repeat k_all
    exact hk
  · obtain ⟨k, _, rfl⟩ := List.mem_map.mp hx
    rfl
  have et : [] ++ List.map (fun d => match d with | .int j => .int (((ns.getD (Int.toNat 10) 0).fmod 256 + j * (ns.getD (Int.toNat 11) 0).fmod 256).fmod 256) | d => d) (List.map (fun (i : Nat) => D.int i) (List.range (Int.toNat 14))) = iL (tgtsOf (ns.getD (Int.toNat 10) 0) (ns.getD (Int.toNat 11) 0)) := by
    unfold tgtsOf iL
    rw [List.nil_append, List.map_map, List.map_map]; rfl
  rw [et]
  repeat k_all
  refine ex_cut rfl rfl (part_some (i := (ns.getD (Int.toNat 9) 0).fmod 15) (Int.fmod_nonneg_of_pos _ (by decide))) ?_
  rw [cut_hi]
  have hTb := tgts_bytes (ns.getD (Int.toNat 10) 0) (ns.getD (Int.toNat 11) 0) ((ns.getD (Int.toNat 9) 0).fmod 15).toNat
  have hTl := tgts_len (ns.getD (Int.toNat 10) 0) (ns.getD (Int.toNat 11) 0) ((ns.getD (Int.toNat 9) 0).fmod 15).toNat
  generalize (tgtsOf (ns.getD (Int.toNat 10) 0) (ns.getD (Int.toNat 11) 0)).take ((ns.getD (Int.toNat 9) 0).fmod 15).toNat = T at hTb hTl ⊢
  have fT : (T == T) = true := beq_self_eq_true T
  have hTc : bytesOk ((T.length : Int) :: T) = true := by
    rw [show ((T.length : Int) :: T) = [(T.length : Int)] ++ T from rfl, bytesOk_app, hTb]
    simp [bytesOk]; omega
  have hfb := full_bytes hk hv
  have hob := full_bytes hv hk
  have dF := decode_full hk hv
  have dO := decode_full hv hk
  have dH := decode_head hTb hTl
  have sF : slotD (sealedP [1, k0, k1, k2, k3, v0, v1, v2, v3]) = .tup [.bool true, .int (num4 [k0, k1, k2, k3]), .int (num4 [v0, v1, v2, v3])] := by
    unfold slotD
    rw [show sealedP [1, k0, k1, k2, k3, v0, v1, v2, v3] = sealedP (1 :: [k0, k1, k2, k3] ++ [v0, v1, v2, v3]) from rfl, dF]
  have sH : headD (sealedP ((T.length : Int) :: T)) = .lst (iL T) := by unfold headD; rw [dH]
  have sE : slotD (List.replicate 16 0) = .tup [.bool false, .int 0, .int 0] := by unfold slotD; rw [decode_empty]
  have sbF : SlotB (sealedP [1, k0, k1, k2, k3, v0, v1, v2, v3]) := ⟨sealed_ne _, fun z => by
    rw [show sealedP [1, k0, k1, k2, k3, v0, v1, v2, v3] = sealedP (1 :: [k0, k1, k2, k3] ++ [v0, v1, v2, v3]) from rfl, dF] at z; cases z⟩
  have sbO : SlotB (sealedP [1, v0, v1, v2, v3, k0, k1, k2, k3]) := ⟨sealed_ne _, fun z => by
    rw [show sealedP [1, v0, v1, v2, v3, k0, k1, k2, k3] = sealedP (1 :: [v0, v1, v2, v3] ++ [k0, k1, k2, k3]) from rfl, dO] at z; cases z⟩
  have sbE : SlotB (List.replicate 16 0) := ⟨by simp, fun z => by rw [decode_empty] at z; cases z⟩
  have lF := sealedP_len (l := [1, k0, k1, k2, k3, v0, v1, v2, v3]) (by simp)
  have lO := sealedP_len (l := [1, v0, v1, v2, v3, k0, k1, k2, k3]) (by simp)
  have lH := sealedP_len (l := (T.length : Int) :: T) (by simp; omega)
  have tF := tiny_of_bytes (sealed_bytes hfb (by simp))
  have tH := tiny_of_bytes (sealed_bytes hTc (by simp; omega))
  have tE : (List.replicate 16 (0 : Int)).all tiny = true := by decide
  refine go_drop 6 rfl ?_
  repeat k_all
  refine go_drop 7 rfl ?_
  repeat k_all
  refine cw_encode_slot B 17 ?_
  rw [body_eq hk hv]
  refine go_drop 8 rfl ?_
  repeat k_all
  refine cw_encode_slot B 17 ?_
  rw [body_eq hv hk]
  refine go_drop 9 rfl ?_
  repeat k_all
  refine cw_encode_slot B 17 ?_
  rw [slot_zero]
  refine go_drop 10 rfl ?_
  repeat k_all
  refine cw_encode_header (l := T) B 17 rfl (tiny_of_bytes hTb) (by omega) ?_
  refine go_drop 11 rfl ?_
  repeat k_all
  refine cw_lseal (l := [1, k0, k1, k2, k3, v0, v1, v2, v3]) B 18 (tiny_of_bytes hfb) (by simp) ?_
  repeat k_all
  refine cw_same B 18 (plain_iL (by omega)) ?_
  repeat k_all
  refine cw_lseal (l := [1, v0, v1, v2, v3, k0, k1, k2, k3]) B 18 (tiny_of_bytes hob) (by simp) ?_
  repeat k_all
  refine cw_same B 18 (plain_iL (by omega)) ?_
  repeat k_all
  refine go_drop 12 rfl ?_
  repeat k_all
  refine cw_same (d := .lst (iL (List.replicate 16 0))) B 18 (plain_iL (by simp)) ?_
  repeat k_all
  rw [show ((iL T).length : Int) = (T.length : Int) by rw [iL_len]]
  refine ex_addL (by rw [iL_len]; simp; omega) ?_
  repeat k_all
  refine cw_lseal (l := (T.length : Int) :: T) B 18 (tiny_of_bytes hTc) (by simp; omega) ?_
  repeat k_all
  refine cw_same B 18 (plain_iL (by omega)) ?_
  repeat k_all
  refine ex_neL ?_
  repeat k_all
  refine go_drop 13 rfl ?_
  repeat k_all
  refine cw_slot_read B 16 ?_
  rw [sF]
  repeat k_all
  refine cw_same B 18 (plain_slotT _ _ _) ?_
  repeat k_all
  refine cw_slot_read B 16 ?_
  rw [sE]
  repeat k_all
  refine cw_same B 18 (plain_slotT _ _ _) ?_
  repeat k_all
  refine go_drop 14 rfl ?_
  repeat k_all
  refine cw_header_read B 16 ?_
  rw [sH]
  repeat k_all
  refine cw_same B 18 (plain_iL (by omega)) ?_
  repeat k_all
  refine go_drop 15 rfl ?_
  repeat k_all
  refine go_drop 16 rfl ?_
  repeat k_all
  by_cases c : (ns.getD (Int.toNat 8) 0).fmod 3 = 0
  · have f : ((ns.getD (Int.toNat 8) 0).fmod 3 == 0) = true := beq_iff_eq.mpr c
    repeat k_all
    exact next _ _ _ _ _ _ _ _ _ _ _ hs sbF sbO sbE (by simp) tE lH tH Q X hq
  · have f : ((ns.getD (Int.toNat 8) 0).fmod 3 == 0) = false := beq_eq_false_iff_ne.mpr c
    repeat k_all
    exact next _ _ _ _ _ _ _ _ _ _ _ hs sbF sbO sbE lF tF lH tH Q X hq

theorem cw_law {w : World} {s : Shared} (B : Bs w s) (ns : List Int) : CW (mkG w s) 20 373 [.lst (iL ns)] [] (fun d _ => d = .bool true) (fun _ _ => False) := by
  refine fn_cwK (B.pok 19) 373 [Str.ofString "script"] (by kernel_rfl) (bind1 fun a => by kernel_rfl) rfl ?_
  rw [← lawBody_eq]
  exact segA B _ _ fun _ _ => rfl

theorem law1 : PySem.Challenge.rw_sx_yvault_1.Holds := law_end fun w s ns B _ => cw_law B ns

end YV
end

theorem PySem.Challenge.cw_sx_yvault_1_holds : PySem.Challenge.rw_sx_yvault_1.Holds :=
  YV.law1
