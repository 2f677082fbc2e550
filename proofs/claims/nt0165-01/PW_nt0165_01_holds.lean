import PyProof.Rows.All
import Wide.All
import OpenK.AllK
import Wide.FinOn
import PySem.Challenge.RW_nt0165_01
set_option Elab.async false
set_option maxRecDepth 100000
set_option maxHeartbeats 8000000
set_option linter.unusedVariables false
set_option compiler.extract_closed false
section
open PySem PySem.W PyProof.Rows
lay_quick PySem.Challenge.rw_nt0165_01
namespace Mine
noncomputable def stA (p : Program) (i : Nat) : Stmt := p.main.body.getD i (.Pass default)
noncomputable def sbA (s : Stmt) (j : Nat) : Stmt := match s with | .ClassDef _ _ _ b _ _ _ _ _ _ _ => b.getD j (.Pass default) | _ => .Pass default
noncomputable def fnP (s : Stmt) : Arguments := match s with | .FunctionDef _ a _ _ _ _ _ _ _ _ => a | _ => default
noncomputable def fnB (s : Stmt) : List Stmt := match s with | .FunctionDef _ _ b _ _ _ _ _ _ _ => b | _ => []
noncomputable def fnS (s : Stmt) : Scope := match s with | .FunctionDef _ _ _ _ _ _ sc _ _ _ => sc | _ => default
structure Ck where
  c0 : Str
  c1 : Str
  c2 : Str
  c3 : Str
  c4 : Str
  c5 : Str
  c6 : Str
  c7 : Str
  c8 : Str
  c9 : Str
  c10 : Str
  c11 : Str
structure At where
  k0 : Ck
  k1 : Ck
  k2 : Ck
  k3 : Ck
  k4 : Ck
  k5 : Ck
  k6 : Ck
  k7 : Ck
  k8 : Ck
noncomputable def ofS : At := ⟨⟨(PySem.Str.ofString "scheme.data"), (PySem.Str.ofString "__init__"), (PySem.Str.ofString "Symbol.__init__"), (PySem.Str.ofString "number"), (PySem.Str.ofString "text"), (PySem.Str.ofString "__module__"), (PySem.Str.ofString "__firstlineno__"), (PySem.Str.ofString "__static_attributes__"), (PySem.Str.ofString "__dict__"), (PySem.Str.ofString "__weakref__"), (PySem.Str.ofString "__doc__"), (PySem.Str.ofString "Symbol")⟩, ⟨(PySem.Str.ofString "__name__"), (PySem.Str.ofString "__package__"), (PySem.Str.ofString "__loader__"), (PySem.Str.ofString "__spec__"), (PySem.Str.ofString "__annotations__"), (PySem.Str.ofString "__builtins__"), (PySem.Str.ofString "__file__"), (PySem.Str.ofString "/claim/cut.py"), (PySem.Str.ofString "__cached__"), (PySem.Str.ofString "Special"), (PySem.Str.ofString "EMPTY"), (PySem.Str.ofString "UNSPECIFIED")⟩, ⟨(PySem.Str.ofString "UNASSIGNED"), (PySem.Str.ofString "EOF"), (PySem.Str.ofString "SymbolTable"), (PySem.Str.ofString "__qualname__"), (PySem.Str.ofString "symbol"), (PySem.Str.ofString "fresh"), (PySem.Str.ofString "by_number"), (PySem.Str.ofString "find"), (PySem.Str.ofString "is_interned"), (PySem.Str.ofString "size"), (PySem.Str.ofString "self"), (PySem.Str.ofString "SymbolTable.__init__")⟩, ⟨(PySem.Str.ofString "found"), (PySem.Str.ofString "SymbolTable.symbol"), (PySem.Str.ofString "hint"), (PySem.Str.ofString "SymbolTable.fresh"), (PySem.Str.ofString "SymbolTable.by_number"), (PySem.Str.ofString "SymbolTable.find"), (PySem.Str.ofString "SymbolTable.is_interned"), (PySem.Str.ofString "SymbolTable.size"), (PySem.Str.ofString "by_text"), (PySem.Str.ofString "rows"), (PySem.Str.ofString "Pair"), (PySem.Str.ofString "car")⟩, ⟨(PySem.Str.ofString "cdr"), (PySem.Str.ofString "Pair.__init__"), (PySem.Str.ofString "Char"), (PySem.Str.ofString "code"), (PySem.Str.ofString "Char.__init__"), (PySem.Str.ofString "Text"), (PySem.Str.ofString "codes"), (PySem.Str.ofString "Text.__init__"), (PySem.Str.ofString "Vector"), (PySem.Str.ofString "things"), (PySem.Str.ofString "Vector.__init__"), (PySem.Str.ofString "Box")⟩, ⟨(PySem.Str.ofString "content"), (PySem.Str.ofString "Box.__init__"), (PySem.Str.ofString "Promise"), (PySem.Str.ofString "is_done"), (PySem.Str.ofString "Promise.__init__"), (PySem.Str.ofString "PortRef"), (PySem.Str.ofString "PortRef.__init__"), (PySem.Str.ofString "Procedure"), (PySem.Str.ofString "title"), (PySem.Str.ofString "Procedure.__init__"), (PySem.Str.ofString "Primitive"), (PySem.Str.ofString "make_text")⟩, ⟨(PySem.Str.ofString "python_text"), (PySem.Str.ofString "list_of"), (PySem.Str.ofString "split_list"), (PySem.Str.ofString "items_of"), (PySem.Str.ofString "op"), (PySem.Str.ofString "Primitive.__init__"), (PySem.Str.ofString "tail"), (PySem.Str.ofString "place"), (PySem.Str.ofString "datum"), (PySem.Str.ofString "at"), (PySem.Str.ofString "slow"), (PySem.Str.ofString "law_nt0165_01")⟩, ⟨(PySem.Str.ofString "is_proper"), (PySem.Str.ofString "is_boolean"), (PySem.Str.ofString "is_true"), (PySem.Str.ofString "is_whole"), (PySem.Str.ofString "is_symbol"), (PySem.Str.ofString "kind_word"), (PySem.Str.ofString "_law_draw"), (PySem.Str.ofString "_law_is_table_right"), (PySem.Str.ofString "_law_is_list_right"), (PySem.Str.ofString "_law_are_words_right"), (PySem.Str.ofString "law"), (PySem.Str.ofString "<module>")⟩, ⟨(PySem.Str.ofString "deck"), (PySem.Str.ofString "many"), (PySem.Str.ofString "__main__"), (PySem.Str.ofString "Special.__init__"), (PySem.Str.ofString "empty"), (PySem.Str.ofString "unspecified"), (PySem.Str.ofString "unassigned"), (PySem.Str.ofString "eof"), (PySem.Str.ofString ""), (PySem.Str.ofString ""), (PySem.Str.ofString ""), (PySem.Str.ofString "")⟩⟩
noncomputable def fsS : At := ⟨⟨⟨⟨[115, 99, 104, 101, 109, 101, 46, 100, 97, 116, 97]⟩⟩, ⟨⟨[95, 95, 105, 110, 105, 116, 95, 95]⟩⟩, ⟨⟨[83, 121, 109, 98, 111, 108, 46, 95, 95, 105, 110, 105, 116, 95, 95]⟩⟩, ⟨⟨[110, 117, 109, 98, 101, 114]⟩⟩, ⟨⟨[116, 101, 120, 116]⟩⟩, ⟨⟨[95, 95, 109, 111, 100, 117, 108, 101, 95, 95]⟩⟩, ⟨⟨[95, 95, 102, 105, 114, 115, 116, 108, 105, 110, 101, 110, 111, 95, 95]⟩⟩, ⟨⟨[95, 95, 115, 116, 97, 116, 105, 99, 95, 97, 116, 116, 114, 105, 98, 117, 116, 101, 115, 95, 95]⟩⟩, ⟨⟨[95, 95, 100, 105, 99, 116, 95, 95]⟩⟩, ⟨⟨[95, 95, 119, 101, 97, 107, 114, 101, 102, 95, 95]⟩⟩, ⟨⟨[95, 95, 100, 111, 99, 95, 95]⟩⟩, ⟨⟨[83, 121, 109, 98, 111, 108]⟩⟩⟩, ⟨⟨⟨[95, 95, 110, 97, 109, 101, 95, 95]⟩⟩, ⟨⟨[95, 95, 112, 97, 99, 107, 97, 103, 101, 95, 95]⟩⟩, ⟨⟨[95, 95, 108, 111, 97, 100, 101, 114, 95, 95]⟩⟩, ⟨⟨[95, 95, 115, 112, 101, 99, 95, 95]⟩⟩, ⟨⟨[95, 95, 97, 110, 110, 111, 116, 97, 116, 105, 111, 110, 115, 95, 95]⟩⟩, ⟨⟨[95, 95, 98, 117, 105, 108, 116, 105, 110, 115, 95, 95]⟩⟩, ⟨⟨[95, 95, 102, 105, 108, 101, 95, 95]⟩⟩, ⟨⟨[47, 99, 108, 97, 105, 109, 47, 99, 117, 116, 46, 112, 121]⟩⟩, ⟨⟨[95, 95, 99, 97, 99, 104, 101, 100, 95, 95]⟩⟩, ⟨⟨[83, 112, 101, 99, 105, 97, 108]⟩⟩, ⟨⟨[69, 77, 80, 84, 89]⟩⟩, ⟨⟨[85, 78, 83, 80, 69, 67, 73, 70, 73, 69, 68]⟩⟩⟩, ⟨⟨⟨[85, 78, 65, 83, 83, 73, 71, 78, 69, 68]⟩⟩, ⟨⟨[69, 79, 70]⟩⟩, ⟨⟨[83, 121, 109, 98, 111, 108, 84, 97, 98, 108, 101]⟩⟩, ⟨⟨[95, 95, 113, 117, 97, 108, 110, 97, 109, 101, 95, 95]⟩⟩, ⟨⟨[115, 121, 109, 98, 111, 108]⟩⟩, ⟨⟨[102, 114, 101, 115, 104]⟩⟩, ⟨⟨[98, 121, 95, 110, 117, 109, 98, 101, 114]⟩⟩, ⟨⟨[102, 105, 110, 100]⟩⟩, ⟨⟨[105, 115, 95, 105, 110, 116, 101, 114, 110, 101, 100]⟩⟩, ⟨⟨[115, 105, 122, 101]⟩⟩, ⟨⟨[115, 101, 108, 102]⟩⟩, ⟨⟨[83, 121, 109, 98, 111, 108, 84, 97, 98, 108, 101, 46, 95, 95, 105, 110, 105, 116, 95, 95]⟩⟩⟩, ⟨⟨⟨[102, 111, 117, 110, 100]⟩⟩, ⟨⟨[83, 121, 109, 98, 111, 108, 84, 97, 98, 108, 101, 46, 115, 121, 109, 98, 111, 108]⟩⟩, ⟨⟨[104, 105, 110, 116]⟩⟩, ⟨⟨[83, 121, 109, 98, 111, 108, 84, 97, 98, 108, 101, 46, 102, 114, 101, 115, 104]⟩⟩, ⟨⟨[83, 121, 109, 98, 111, 108, 84, 97, 98, 108, 101, 46, 98, 121, 95, 110, 117, 109, 98, 101, 114]⟩⟩, ⟨⟨[83, 121, 109, 98, 111, 108, 84, 97, 98, 108, 101, 46, 102, 105, 110, 100]⟩⟩, ⟨⟨[83, 121, 109, 98, 111, 108, 84, 97, 98, 108, 101, 46, 105, 115, 95, 105, 110, 116, 101, 114, 110, 101, 100]⟩⟩, ⟨⟨[83, 121, 109, 98, 111, 108, 84, 97, 98, 108, 101, 46, 115, 105, 122, 101]⟩⟩, ⟨⟨[98, 121, 95, 116, 101, 120, 116]⟩⟩, ⟨⟨[114, 111, 119, 115]⟩⟩, ⟨⟨[80, 97, 105, 114]⟩⟩, ⟨⟨[99, 97, 114]⟩⟩⟩, ⟨⟨⟨[99, 100, 114]⟩⟩, ⟨⟨[80, 97, 105, 114, 46, 95, 95, 105, 110, 105, 116, 95, 95]⟩⟩, ⟨⟨[67, 104, 97, 114]⟩⟩, ⟨⟨[99, 111, 100, 101]⟩⟩, ⟨⟨[67, 104, 97, 114, 46, 95, 95, 105, 110, 105, 116, 95, 95]⟩⟩, ⟨⟨[84, 101, 120, 116]⟩⟩, ⟨⟨[99, 111, 100, 101, 115]⟩⟩, ⟨⟨[84, 101, 120, 116, 46, 95, 95, 105, 110, 105, 116, 95, 95]⟩⟩, ⟨⟨[86, 101, 99, 116, 111, 114]⟩⟩, ⟨⟨[116, 104, 105, 110, 103, 115]⟩⟩, ⟨⟨[86, 101, 99, 116, 111, 114, 46, 95, 95, 105, 110, 105, 116, 95, 95]⟩⟩, ⟨⟨[66, 111, 120]⟩⟩⟩, ⟨⟨⟨[99, 111, 110, 116, 101, 110, 116]⟩⟩, ⟨⟨[66, 111, 120, 46, 95, 95, 105, 110, 105, 116, 95, 95]⟩⟩, ⟨⟨[80, 114, 111, 109, 105, 115, 101]⟩⟩, ⟨⟨[105, 115, 95, 100, 111, 110, 101]⟩⟩, ⟨⟨[80, 114, 111, 109, 105, 115, 101, 46, 95, 95, 105, 110, 105, 116, 95, 95]⟩⟩, ⟨⟨[80, 111, 114, 116, 82, 101, 102]⟩⟩, ⟨⟨[80, 111, 114, 116, 82, 101, 102, 46, 95, 95, 105, 110, 105, 116, 95, 95]⟩⟩, ⟨⟨[80, 114, 111, 99, 101, 100, 117, 114, 101]⟩⟩, ⟨⟨[116, 105, 116, 108, 101]⟩⟩, ⟨⟨[80, 114, 111, 99, 101, 100, 117, 114, 101, 46, 95, 95, 105, 110, 105, 116, 95, 95]⟩⟩, ⟨⟨[80, 114, 105, 109, 105, 116, 105, 118, 101]⟩⟩, ⟨⟨[109, 97, 107, 101, 95, 116, 101, 120, 116]⟩⟩⟩, ⟨⟨⟨[112, 121, 116, 104, 111, 110, 95, 116, 101, 120, 116]⟩⟩, ⟨⟨[108, 105, 115, 116, 95, 111, 102]⟩⟩, ⟨⟨[115, 112, 108, 105, 116, 95, 108, 105, 115, 116]⟩⟩, ⟨⟨[105, 116, 101, 109, 115, 95, 111, 102]⟩⟩, ⟨⟨[111, 112]⟩⟩, ⟨⟨[80, 114, 105, 109, 105, 116, 105, 118, 101, 46, 95, 95, 105, 110, 105, 116, 95, 95]⟩⟩, ⟨⟨[116, 97, 105, 108]⟩⟩, ⟨⟨[112, 108, 97, 99, 101]⟩⟩, ⟨⟨[100, 97, 116, 117, 109]⟩⟩, ⟨⟨[97, 116]⟩⟩, ⟨⟨[115, 108, 111, 119]⟩⟩, ⟨⟨[108, 97, 119, 95, 110, 116, 48, 49, 54, 53, 95, 48, 49]⟩⟩⟩, ⟨⟨⟨[105, 115, 95, 112, 114, 111, 112, 101, 114]⟩⟩, ⟨⟨[105, 115, 95, 98, 111, 111, 108, 101, 97, 110]⟩⟩, ⟨⟨[105, 115, 95, 116, 114, 117, 101]⟩⟩, ⟨⟨[105, 115, 95, 119, 104, 111, 108, 101]⟩⟩, ⟨⟨[105, 115, 95, 115, 121, 109, 98, 111, 108]⟩⟩, ⟨⟨[107, 105, 110, 100, 95, 119, 111, 114, 100]⟩⟩, ⟨⟨[95, 108, 97, 119, 95, 100, 114, 97, 119]⟩⟩, ⟨⟨[95, 108, 97, 119, 95, 105, 115, 95, 116, 97, 98, 108, 101, 95, 114, 105, 103, 104, 116]⟩⟩, ⟨⟨[95, 108, 97, 119, 95, 105, 115, 95, 108, 105, 115, 116, 95, 114, 105, 103, 104, 116]⟩⟩, ⟨⟨[95, 108, 97, 119, 95, 97, 114, 101, 95, 119, 111, 114, 100, 115, 95, 114, 105, 103, 104, 116]⟩⟩, ⟨⟨[108, 97, 119]⟩⟩, ⟨⟨[60, 109, 111, 100, 117, 108, 101, 62]⟩⟩⟩, ⟨⟨⟨[100, 101, 99, 107]⟩⟩, ⟨⟨[109, 97, 110, 121]⟩⟩, ⟨⟨[95, 95, 109, 97, 105, 110, 95, 95]⟩⟩, ⟨⟨[83, 112, 101, 99, 105, 97, 108, 46, 95, 95, 105, 110, 105, 116, 95, 95]⟩⟩, ⟨⟨[101, 109, 112, 116, 121]⟩⟩, ⟨⟨[117, 110, 115, 112, 101, 99, 105, 102, 105, 101, 100]⟩⟩, ⟨⟨[117, 110, 97, 115, 115, 105, 103, 110, 101, 100]⟩⟩, ⟨⟨[101, 111, 102]⟩⟩, ⟨⟨[]⟩⟩, ⟨⟨[]⟩⟩, ⟨⟨[]⟩⟩, ⟨⟨[]⟩⟩⟩⟩
theorem ae0 : PySem.Str.ofString "scheme.data" = (⟨⟨[115, 99, 104, 101, 109, 101, 46, 100, 97, 116, 97]⟩⟩ : Str) := (PySem.W.Fast.ofString_ofList [Char.ofNat 115, Char.ofNat 99, Char.ofNat 104, Char.ofNat 101, Char.ofNat 109, Char.ofNat 101, Char.ofNat 46, Char.ofNat 100, Char.ofNat 97, Char.ofNat 116, Char.ofNat 97])
theorem ae1 : PySem.Str.ofString "__init__" = (⟨⟨[95, 95, 105, 110, 105, 116, 95, 95]⟩⟩ : Str) := (PySem.W.Fast.ofString_ofList [Char.ofNat 95, Char.ofNat 95, Char.ofNat 105, Char.ofNat 110, Char.ofNat 105, Char.ofNat 116, Char.ofNat 95, Char.ofNat 95])
theorem ae2 : PySem.Str.ofString "Symbol.__init__" = (⟨⟨[83, 121, 109, 98, 111, 108, 46, 95, 95, 105, 110, 105, 116, 95, 95]⟩⟩ : Str) := (PySem.W.Fast.ofString_ofList [Char.ofNat 83, Char.ofNat 121, Char.ofNat 109, Char.ofNat 98, Char.ofNat 111, Char.ofNat 108, Char.ofNat 46, Char.ofNat 95, Char.ofNat 95, Char.ofNat 105, Char.ofNat 110, Char.ofNat 105, Char.ofNat 116, Char.ofNat 95, Char.ofNat 95])
theorem ae3 : PySem.Str.ofString "number" = (⟨⟨[110, 117, 109, 98, 101, 114]⟩⟩ : Str) := (PySem.W.Fast.ofString_ofList [Char.ofNat 110, Char.ofNat 117, Char.ofNat 109, Char.ofNat 98, Char.ofNat 101, Char.ofNat 114])
theorem ae4 : PySem.Str.ofString "text" = (⟨⟨[116, 101, 120, 116]⟩⟩ : Str) := (PySem.W.Fast.ofString_ofList [Char.ofNat 116, Char.ofNat 101, Char.ofNat 120, Char.ofNat 116])
theorem ae5 : PySem.Str.ofString "__module__" = (⟨⟨[95, 95, 109, 111, 100, 117, 108, 101, 95, 95]⟩⟩ : Str) := (PySem.W.Fast.ofString_ofList [Char.ofNat 95, Char.ofNat 95, Char.ofNat 109, Char.ofNat 111, Char.ofNat 100, Char.ofNat 117, Char.ofNat 108, Char.ofNat 101, Char.ofNat 95, Char.ofNat 95])
theorem ae6 : PySem.Str.ofString "__firstlineno__" = (⟨⟨[95, 95, 102, 105, 114, 115, 116, 108, 105, 110, 101, 110, 111, 95, 95]⟩⟩ : Str) := (PySem.W.Fast.ofString_ofList [Char.ofNat 95, Char.ofNat 95, Char.ofNat 102, Char.ofNat 105, Char.ofNat 114, Char.ofNat 115, Char.ofNat 116, Char.ofNat 108, Char.ofNat 105, Char.ofNat 110, Char.ofNat 101, Char.ofNat 110, Char.ofNat 111, Char.ofNat 95, Char.ofNat 95])
theorem ae7 : PySem.Str.ofString "__static_attributes__" = (⟨⟨[95, 95, 115, 116, 97, 116, 105, 99, 95, 97, 116, 116, 114, 105, 98, 117, 116, 101, 115, 95, 95]⟩⟩ : Str) := (PySem.W.Fast.ofString_ofList [Char.ofNat 95, Char.ofNat 95, Char.ofNat 115, Char.ofNat 116, Char.ofNat 97, Char.ofNat 116, Char.ofNat 105, Char.ofNat 99, Char.ofNat 95, Char.ofNat 97, Char.ofNat 116, Char.ofNat 116, Char.ofNat 114, Char.ofNat 105, Char.ofNat 98, Char.ofNat 117, Char.ofNat 116, Char.ofNat 101, Char.ofNat 115, Char.ofNat 95, Char.ofNat 95])
theorem ae8 : PySem.Str.ofString "__dict__" = (⟨⟨[95, 95, 100, 105, 99, 116, 95, 95]⟩⟩ : Str) := (PySem.W.Fast.ofString_ofList [Char.ofNat 95, Char.ofNat 95, Char.ofNat 100, Char.ofNat 105, Char.ofNat 99, Char.ofNat 116, Char.ofNat 95, Char.ofNat 95])
theorem ae9 : PySem.Str.ofString "__weakref__" = (⟨⟨[95, 95, 119, 101, 97, 107, 114, 101, 102, 95, 95]⟩⟩ : Str) := (PySem.W.Fast.ofString_ofList [Char.ofNat 95, Char.ofNat 95, Char.ofNat 119, Char.ofNat 101, Char.ofNat 97, Char.ofNat 107, Char.ofNat 114, Char.ofNat 101, Char.ofNat 102, Char.ofNat 95, Char.ofNat 95])
theorem ae10 : PySem.Str.ofString "__doc__" = (⟨⟨[95, 95, 100, 111, 99, 95, 95]⟩⟩ : Str) := (PySem.W.Fast.ofString_ofList [Char.ofNat 95, Char.ofNat 95, Char.ofNat 100, Char.ofNat 111, Char.ofNat 99, Char.ofNat 95, Char.ofNat 95])
theorem ae11 : PySem.Str.ofString "Symbol" = (⟨⟨[83, 121, 109, 98, 111, 108]⟩⟩ : Str) := (PySem.W.Fast.ofString_ofList [Char.ofNat 83, Char.ofNat 121, Char.ofNat 109, Char.ofNat 98, Char.ofNat 111, Char.ofNat 108])
theorem ae12 : PySem.Str.ofString "__name__" = (⟨⟨[95, 95, 110, 97, 109, 101, 95, 95]⟩⟩ : Str) := (PySem.W.Fast.ofString_ofList [Char.ofNat 95, Char.ofNat 95, Char.ofNat 110, Char.ofNat 97, Char.ofNat 109, Char.ofNat 101, Char.ofNat 95, Char.ofNat 95])
theorem ae13 : PySem.Str.ofString "__package__" = (⟨⟨[95, 95, 112, 97, 99, 107, 97, 103, 101, 95, 95]⟩⟩ : Str) := (PySem.W.Fast.ofString_ofList [Char.ofNat 95, Char.ofNat 95, Char.ofNat 112, Char.ofNat 97, Char.ofNat 99, Char.ofNat 107, Char.ofNat 97, Char.ofNat 103, Char.ofNat 101, Char.ofNat 95, Char.ofNat 95])
theorem ae14 : PySem.Str.ofString "__loader__" = (⟨⟨[95, 95, 108, 111, 97, 100, 101, 114, 95, 95]⟩⟩ : Str) := (PySem.W.Fast.ofString_ofList [Char.ofNat 95, Char.ofNat 95, Char.ofNat 108, Char.ofNat 111, Char.ofNat 97, Char.ofNat 100, Char.ofNat 101, Char.ofNat 114, Char.ofNat 95, Char.ofNat 95])
theorem ae15 : PySem.Str.ofString "__spec__" = (⟨⟨[95, 95, 115, 112, 101, 99, 95, 95]⟩⟩ : Str) := (PySem.W.Fast.ofString_ofList [Char.ofNat 95, Char.ofNat 95, Char.ofNat 115, Char.ofNat 112, Char.ofNat 101, Char.ofNat 99, Char.ofNat 95, Char.ofNat 95])
theorem ae16 : PySem.Str.ofString "__annotations__" = (⟨⟨[95, 95, 97, 110, 110, 111, 116, 97, 116, 105, 111, 110, 115, 95, 95]⟩⟩ : Str) := (PySem.W.Fast.ofString_ofList [Char.ofNat 95, Char.ofNat 95, Char.ofNat 97, Char.ofNat 110, Char.ofNat 110, Char.ofNat 111, Char.ofNat 116, Char.ofNat 97, Char.ofNat 116, Char.ofNat 105, Char.ofNat 111, Char.ofNat 110, Char.ofNat 115, Char.ofNat 95, Char.ofNat 95])
theorem ae17 : PySem.Str.ofString "__builtins__" = (⟨⟨[95, 95, 98, 117, 105, 108, 116, 105, 110, 115, 95, 95]⟩⟩ : Str) := (PySem.W.Fast.ofString_ofList [Char.ofNat 95, Char.ofNat 95, Char.ofNat 98, Char.ofNat 117, Char.ofNat 105, Char.ofNat 108, Char.ofNat 116, Char.ofNat 105, Char.ofNat 110, Char.ofNat 115, Char.ofNat 95, Char.ofNat 95])
theorem ae18 : PySem.Str.ofString "__file__" = (⟨⟨[95, 95, 102, 105, 108, 101, 95, 95]⟩⟩ : Str) := (PySem.W.Fast.ofString_ofList [Char.ofNat 95, Char.ofNat 95, Char.ofNat 102, Char.ofNat 105, Char.ofNat 108, Char.ofNat 101, Char.ofNat 95, Char.ofNat 95])
theorem ae19 : PySem.Str.ofString "/claim/cut.py" = (⟨⟨[47, 99, 108, 97, 105, 109, 47, 99, 117, 116, 46, 112, 121]⟩⟩ : Str) := (PySem.W.Fast.ofString_ofList [Char.ofNat 47, Char.ofNat 99, Char.ofNat 108, Char.ofNat 97, Char.ofNat 105, Char.ofNat 109, Char.ofNat 47, Char.ofNat 99, Char.ofNat 117, Char.ofNat 116, Char.ofNat 46, Char.ofNat 112, Char.ofNat 121])
theorem ae20 : PySem.Str.ofString "__cached__" = (⟨⟨[95, 95, 99, 97, 99, 104, 101, 100, 95, 95]⟩⟩ : Str) := (PySem.W.Fast.ofString_ofList [Char.ofNat 95, Char.ofNat 95, Char.ofNat 99, Char.ofNat 97, Char.ofNat 99, Char.ofNat 104, Char.ofNat 101, Char.ofNat 100, Char.ofNat 95, Char.ofNat 95])
theorem ae21 : PySem.Str.ofString "Special" = (⟨⟨[83, 112, 101, 99, 105, 97, 108]⟩⟩ : Str) := (PySem.W.Fast.ofString_ofList [Char.ofNat 83, Char.ofNat 112, Char.ofNat 101, Char.ofNat 99, Char.ofNat 105, Char.ofNat 97, Char.ofNat 108])
theorem ae22 : PySem.Str.ofString "EMPTY" = (⟨⟨[69, 77, 80, 84, 89]⟩⟩ : Str) := (PySem.W.Fast.ofString_ofList [Char.ofNat 69, Char.ofNat 77, Char.ofNat 80, Char.ofNat 84, Char.ofNat 89])
theorem ae23 : PySem.Str.ofString "UNSPECIFIED" = (⟨⟨[85, 78, 83, 80, 69, 67, 73, 70, 73, 69, 68]⟩⟩ : Str) := (PySem.W.Fast.ofString_ofList [Char.ofNat 85, Char.ofNat 78, Char.ofNat 83, Char.ofNat 80, Char.ofNat 69, Char.ofNat 67, Char.ofNat 73, Char.ofNat 70, Char.ofNat 73, Char.ofNat 69, Char.ofNat 68])
theorem ae24 : PySem.Str.ofString "UNASSIGNED" = (⟨⟨[85, 78, 65, 83, 83, 73, 71, 78, 69, 68]⟩⟩ : Str) := (PySem.W.Fast.ofString_ofList [Char.ofNat 85, Char.ofNat 78, Char.ofNat 65, Char.ofNat 83, Char.ofNat 83, Char.ofNat 73, Char.ofNat 71, Char.ofNat 78, Char.ofNat 69, Char.ofNat 68])
theorem ae25 : PySem.Str.ofString "EOF" = (⟨⟨[69, 79, 70]⟩⟩ : Str) := (PySem.W.Fast.ofString_ofList [Char.ofNat 69, Char.ofNat 79, Char.ofNat 70])
theorem ae26 : PySem.Str.ofString "SymbolTable" = (⟨⟨[83, 121, 109, 98, 111, 108, 84, 97, 98, 108, 101]⟩⟩ : Str) := (PySem.W.Fast.ofString_ofList [Char.ofNat 83, Char.ofNat 121, Char.ofNat 109, Char.ofNat 98, Char.ofNat 111, Char.ofNat 108, Char.ofNat 84, Char.ofNat 97, Char.ofNat 98, Char.ofNat 108, Char.ofNat 101])
theorem ae27 : PySem.Str.ofString "__qualname__" = (⟨⟨[95, 95, 113, 117, 97, 108, 110, 97, 109, 101, 95, 95]⟩⟩ : Str) := (PySem.W.Fast.ofString_ofList [Char.ofNat 95, Char.ofNat 95, Char.ofNat 113, Char.ofNat 117, Char.ofNat 97, Char.ofNat 108, Char.ofNat 110, Char.ofNat 97, Char.ofNat 109, Char.ofNat 101, Char.ofNat 95, Char.ofNat 95])
theorem ae28 : PySem.Str.ofString "symbol" = (⟨⟨[115, 121, 109, 98, 111, 108]⟩⟩ : Str) := (PySem.W.Fast.ofString_ofList [Char.ofNat 115, Char.ofNat 121, Char.ofNat 109, Char.ofNat 98, Char.ofNat 111, Char.ofNat 108])
theorem ae29 : PySem.Str.ofString "fresh" = (⟨⟨[102, 114, 101, 115, 104]⟩⟩ : Str) := (PySem.W.Fast.ofString_ofList [Char.ofNat 102, Char.ofNat 114, Char.ofNat 101, Char.ofNat 115, Char.ofNat 104])
theorem ae30 : PySem.Str.ofString "by_number" = (⟨⟨[98, 121, 95, 110, 117, 109, 98, 101, 114]⟩⟩ : Str) := (PySem.W.Fast.ofString_ofList [Char.ofNat 98, Char.ofNat 121, Char.ofNat 95, Char.ofNat 110, Char.ofNat 117, Char.ofNat 109, Char.ofNat 98, Char.ofNat 101, Char.ofNat 114])
theorem ae31 : PySem.Str.ofString "find" = (⟨⟨[102, 105, 110, 100]⟩⟩ : Str) := (PySem.W.Fast.ofString_ofList [Char.ofNat 102, Char.ofNat 105, Char.ofNat 110, Char.ofNat 100])
theorem ae32 : PySem.Str.ofString "is_interned" = (⟨⟨[105, 115, 95, 105, 110, 116, 101, 114, 110, 101, 100]⟩⟩ : Str) := (PySem.W.Fast.ofString_ofList [Char.ofNat 105, Char.ofNat 115, Char.ofNat 95, Char.ofNat 105, Char.ofNat 110, Char.ofNat 116, Char.ofNat 101, Char.ofNat 114, Char.ofNat 110, Char.ofNat 101, Char.ofNat 100])
theorem ae33 : PySem.Str.ofString "size" = (⟨⟨[115, 105, 122, 101]⟩⟩ : Str) := (PySem.W.Fast.ofString_ofList [Char.ofNat 115, Char.ofNat 105, Char.ofNat 122, Char.ofNat 101])
theorem ae34 : PySem.Str.ofString "self" = (⟨⟨[115, 101, 108, 102]⟩⟩ : Str) := (PySem.W.Fast.ofString_ofList [Char.ofNat 115, Char.ofNat 101, Char.ofNat 108, Char.ofNat 102])
theorem ae35 : PySem.Str.ofString "SymbolTable.__init__" = (⟨⟨[83, 121, 109, 98, 111, 108, 84, 97, 98, 108, 101, 46, 95, 95, 105, 110, 105, 116, 95, 95]⟩⟩ : Str) := (PySem.W.Fast.ofString_ofList [Char.ofNat 83, Char.ofNat 121, Char.ofNat 109, Char.ofNat 98, Char.ofNat 111, Char.ofNat 108, Char.ofNat 84, Char.ofNat 97, Char.ofNat 98, Char.ofNat 108, Char.ofNat 101, Char.ofNat 46, Char.ofNat 95, Char.ofNat 95, Char.ofNat 105, Char.ofNat 110, Char.ofNat 105, Char.ofNat 116, Char.ofNat 95, Char.ofNat 95])
theorem ae36 : PySem.Str.ofString "found" = (⟨⟨[102, 111, 117, 110, 100]⟩⟩ : Str) := (PySem.W.Fast.ofString_ofList [Char.ofNat 102, Char.ofNat 111, Char.ofNat 117, Char.ofNat 110, Char.ofNat 100])
theorem ae37 : PySem.Str.ofString "SymbolTable.symbol" = (⟨⟨[83, 121, 109, 98, 111, 108, 84, 97, 98, 108, 101, 46, 115, 121, 109, 98, 111, 108]⟩⟩ : Str) := (PySem.W.Fast.ofString_ofList [Char.ofNat 83, Char.ofNat 121, Char.ofNat 109, Char.ofNat 98, Char.ofNat 111, Char.ofNat 108, Char.ofNat 84, Char.ofNat 97, Char.ofNat 98, Char.ofNat 108, Char.ofNat 101, Char.ofNat 46, Char.ofNat 115, Char.ofNat 121, Char.ofNat 109, Char.ofNat 98, Char.ofNat 111, Char.ofNat 108])
theorem ae38 : PySem.Str.ofString "hint" = (⟨⟨[104, 105, 110, 116]⟩⟩ : Str) := (PySem.W.Fast.ofString_ofList [Char.ofNat 104, Char.ofNat 105, Char.ofNat 110, Char.ofNat 116])
theorem ae39 : PySem.Str.ofString "SymbolTable.fresh" = (⟨⟨[83, 121, 109, 98, 111, 108, 84, 97, 98, 108, 101, 46, 102, 114, 101, 115, 104]⟩⟩ : Str) := (PySem.W.Fast.ofString_ofList [Char.ofNat 83, Char.ofNat 121, Char.ofNat 109, Char.ofNat 98, Char.ofNat 111, Char.ofNat 108, Char.ofNat 84, Char.ofNat 97, Char.ofNat 98, Char.ofNat 108, Char.ofNat 101, Char.ofNat 46, Char.ofNat 102, Char.ofNat 114, Char.ofNat 101, Char.ofNat 115, Char.ofNat 104])
theorem ae40 : PySem.Str.ofString "SymbolTable.by_number" = (⟨⟨[83, 121, 109, 98, 111, 108, 84, 97, 98, 108, 101, 46, 98, 121, 95, 110, 117, 109, 98, 101, 114]⟩⟩ : Str) := (PySem.W.Fast.ofString_ofList [Char.ofNat 83, Char.ofNat 121, Char.ofNat 109, Char.ofNat 98, Char.ofNat 111, Char.ofNat 108, Char.ofNat 84, Char.ofNat 97, Char.ofNat 98, Char.ofNat 108, Char.ofNat 101, Char.ofNat 46, Char.ofNat 98, Char.ofNat 121, Char.ofNat 95, Char.ofNat 110, Char.ofNat 117, Char.ofNat 109, Char.ofNat 98, Char.ofNat 101, Char.ofNat 114])
theorem ae41 : PySem.Str.ofString "SymbolTable.find" = (⟨⟨[83, 121, 109, 98, 111, 108, 84, 97, 98, 108, 101, 46, 102, 105, 110, 100]⟩⟩ : Str) := (PySem.W.Fast.ofString_ofList [Char.ofNat 83, Char.ofNat 121, Char.ofNat 109, Char.ofNat 98, Char.ofNat 111, Char.ofNat 108, Char.ofNat 84, Char.ofNat 97, Char.ofNat 98, Char.ofNat 108, Char.ofNat 101, Char.ofNat 46, Char.ofNat 102, Char.ofNat 105, Char.ofNat 110, Char.ofNat 100])
theorem ae42 : PySem.Str.ofString "SymbolTable.is_interned" = (⟨⟨[83, 121, 109, 98, 111, 108, 84, 97, 98, 108, 101, 46, 105, 115, 95, 105, 110, 116, 101, 114, 110, 101, 100]⟩⟩ : Str) := (PySem.W.Fast.ofString_ofList [Char.ofNat 83, Char.ofNat 121, Char.ofNat 109, Char.ofNat 98, Char.ofNat 111, Char.ofNat 108, Char.ofNat 84, Char.ofNat 97, Char.ofNat 98, Char.ofNat 108, Char.ofNat 101, Char.ofNat 46, Char.ofNat 105, Char.ofNat 115, Char.ofNat 95, Char.ofNat 105, Char.ofNat 110, Char.ofNat 116, Char.ofNat 101, Char.ofNat 114, Char.ofNat 110, Char.ofNat 101, Char.ofNat 100])
theorem ae43 : PySem.Str.ofString "SymbolTable.size" = (⟨⟨[83, 121, 109, 98, 111, 108, 84, 97, 98, 108, 101, 46, 115, 105, 122, 101]⟩⟩ : Str) := (PySem.W.Fast.ofString_ofList [Char.ofNat 83, Char.ofNat 121, Char.ofNat 109, Char.ofNat 98, Char.ofNat 111, Char.ofNat 108, Char.ofNat 84, Char.ofNat 97, Char.ofNat 98, Char.ofNat 108, Char.ofNat 101, Char.ofNat 46, Char.ofNat 115, Char.ofNat 105, Char.ofNat 122, Char.ofNat 101])
theorem ae44 : PySem.Str.ofString "by_text" = (⟨⟨[98, 121, 95, 116, 101, 120, 116]⟩⟩ : Str) := (PySem.W.Fast.ofString_ofList [Char.ofNat 98, Char.ofNat 121, Char.ofNat 95, Char.ofNat 116, Char.ofNat 101, Char.ofNat 120, Char.ofNat 116])
theorem ae45 : PySem.Str.ofString "rows" = (⟨⟨[114, 111, 119, 115]⟩⟩ : Str) := (PySem.W.Fast.ofString_ofList [Char.ofNat 114, Char.ofNat 111, Char.ofNat 119, Char.ofNat 115])
theorem ae46 : PySem.Str.ofString "Pair" = (⟨⟨[80, 97, 105, 114]⟩⟩ : Str) := (PySem.W.Fast.ofString_ofList [Char.ofNat 80, Char.ofNat 97, Char.ofNat 105, Char.ofNat 114])
theorem ae47 : PySem.Str.ofString "car" = (⟨⟨[99, 97, 114]⟩⟩ : Str) := (PySem.W.Fast.ofString_ofList [Char.ofNat 99, Char.ofNat 97, Char.ofNat 114])
theorem ae48 : PySem.Str.ofString "cdr" = (⟨⟨[99, 100, 114]⟩⟩ : Str) := (PySem.W.Fast.ofString_ofList [Char.ofNat 99, Char.ofNat 100, Char.ofNat 114])
theorem ae49 : PySem.Str.ofString "Pair.__init__" = (⟨⟨[80, 97, 105, 114, 46, 95, 95, 105, 110, 105, 116, 95, 95]⟩⟩ : Str) := (PySem.W.Fast.ofString_ofList [Char.ofNat 80, Char.ofNat 97, Char.ofNat 105, Char.ofNat 114, Char.ofNat 46, Char.ofNat 95, Char.ofNat 95, Char.ofNat 105, Char.ofNat 110, Char.ofNat 105, Char.ofNat 116, Char.ofNat 95, Char.ofNat 95])
theorem ae50 : PySem.Str.ofString "Char" = (⟨⟨[67, 104, 97, 114]⟩⟩ : Str) := (PySem.W.Fast.ofString_ofList [Char.ofNat 67, Char.ofNat 104, Char.ofNat 97, Char.ofNat 114])
theorem ae51 : PySem.Str.ofString "code" = (⟨⟨[99, 111, 100, 101]⟩⟩ : Str) := (PySem.W.Fast.ofString_ofList [Char.ofNat 99, Char.ofNat 111, Char.ofNat 100, Char.ofNat 101])
theorem ae52 : PySem.Str.ofString "Char.__init__" = (⟨⟨[67, 104, 97, 114, 46, 95, 95, 105, 110, 105, 116, 95, 95]⟩⟩ : Str) := (PySem.W.Fast.ofString_ofList [Char.ofNat 67, Char.ofNat 104, Char.ofNat 97, Char.ofNat 114, Char.ofNat 46, Char.ofNat 95, Char.ofNat 95, Char.ofNat 105, Char.ofNat 110, Char.ofNat 105, Char.ofNat 116, Char.ofNat 95, Char.ofNat 95])
theorem ae53 : PySem.Str.ofString "Text" = (⟨⟨[84, 101, 120, 116]⟩⟩ : Str) := (PySem.W.Fast.ofString_ofList [Char.ofNat 84, Char.ofNat 101, Char.ofNat 120, Char.ofNat 116])
theorem ae54 : PySem.Str.ofString "codes" = (⟨⟨[99, 111, 100, 101, 115]⟩⟩ : Str) := (PySem.W.Fast.ofString_ofList [Char.ofNat 99, Char.ofNat 111, Char.ofNat 100, Char.ofNat 101, Char.ofNat 115])
theorem ae55 : PySem.Str.ofString "Text.__init__" = (⟨⟨[84, 101, 120, 116, 46, 95, 95, 105, 110, 105, 116, 95, 95]⟩⟩ : Str) := (PySem.W.Fast.ofString_ofList [Char.ofNat 84, Char.ofNat 101, Char.ofNat 120, Char.ofNat 116, Char.ofNat 46, Char.ofNat 95, Char.ofNat 95, Char.ofNat 105, Char.ofNat 110, Char.ofNat 105, Char.ofNat 116, Char.ofNat 95, Char.ofNat 95])
theorem ae56 : PySem.Str.ofString "Vector" = (⟨⟨[86, 101, 99, 116, 111, 114]⟩⟩ : Str) := (PySem.W.Fast.ofString_ofList [Char.ofNat 86, Char.ofNat 101, Char.ofNat 99, Char.ofNat 116, Char.ofNat 111, Char.ofNat 114])
theorem ae57 : PySem.Str.ofString "things" = (⟨⟨[116, 104, 105, 110, 103, 115]⟩⟩ : Str) := (PySem.W.Fast.ofString_ofList [Char.ofNat 116, Char.ofNat 104, Char.ofNat 105, Char.ofNat 110, Char.ofNat 103, Char.ofNat 115])
theorem ae58 : PySem.Str.ofString "Vector.__init__" = (⟨⟨[86, 101, 99, 116, 111, 114, 46, 95, 95, 105, 110, 105, 116, 95, 95]⟩⟩ : Str) := (PySem.W.Fast.ofString_ofList [Char.ofNat 86, Char.ofNat 101, Char.ofNat 99, Char.ofNat 116, Char.ofNat 111, Char.ofNat 114, Char.ofNat 46, Char.ofNat 95, Char.ofNat 95, Char.ofNat 105, Char.ofNat 110, Char.ofNat 105, Char.ofNat 116, Char.ofNat 95, Char.ofNat 95])
theorem ae59 : PySem.Str.ofString "Box" = (⟨⟨[66, 111, 120]⟩⟩ : Str) := (PySem.W.Fast.ofString_ofList [Char.ofNat 66, Char.ofNat 111, Char.ofNat 120])
theorem ae60 : PySem.Str.ofString "content" = (⟨⟨[99, 111, 110, 116, 101, 110, 116]⟩⟩ : Str) := (PySem.W.Fast.ofString_ofList [Char.ofNat 99, Char.ofNat 111, Char.ofNat 110, Char.ofNat 116, Char.ofNat 101, Char.ofNat 110, Char.ofNat 116])
theorem ae61 : PySem.Str.ofString "Box.__init__" = (⟨⟨[66, 111, 120, 46, 95, 95, 105, 110, 105, 116, 95, 95]⟩⟩ : Str) := (PySem.W.Fast.ofString_ofList [Char.ofNat 66, Char.ofNat 111, Char.ofNat 120, Char.ofNat 46, Char.ofNat 95, Char.ofNat 95, Char.ofNat 105, Char.ofNat 110, Char.ofNat 105, Char.ofNat 116, Char.ofNat 95, Char.ofNat 95])
theorem ae62 : PySem.Str.ofString "Promise" = (⟨⟨[80, 114, 111, 109, 105, 115, 101]⟩⟩ : Str) := (PySem.W.Fast.ofString_ofList [Char.ofNat 80, Char.ofNat 114, Char.ofNat 111, Char.ofNat 109, Char.ofNat 105, Char.ofNat 115, Char.ofNat 101])
theorem ae63 : PySem.Str.ofString "is_done" = (⟨⟨[105, 115, 95, 100, 111, 110, 101]⟩⟩ : Str) := (PySem.W.Fast.ofString_ofList [Char.ofNat 105, Char.ofNat 115, Char.ofNat 95, Char.ofNat 100, Char.ofNat 111, Char.ofNat 110, Char.ofNat 101])
theorem ae64 : PySem.Str.ofString "Promise.__init__" = (⟨⟨[80, 114, 111, 109, 105, 115, 101, 46, 95, 95, 105, 110, 105, 116, 95, 95]⟩⟩ : Str) := (PySem.W.Fast.ofString_ofList [Char.ofNat 80, Char.ofNat 114, Char.ofNat 111, Char.ofNat 109, Char.ofNat 105, Char.ofNat 115, Char.ofNat 101, Char.ofNat 46, Char.ofNat 95, Char.ofNat 95, Char.ofNat 105, Char.ofNat 110, Char.ofNat 105, Char.ofNat 116, Char.ofNat 95, Char.ofNat 95])
theorem ae65 : PySem.Str.ofString "PortRef" = (⟨⟨[80, 111, 114, 116, 82, 101, 102]⟩⟩ : Str) := (PySem.W.Fast.ofString_ofList [Char.ofNat 80, Char.ofNat 111, Char.ofNat 114, Char.ofNat 116, Char.ofNat 82, Char.ofNat 101, Char.ofNat 102])
theorem ae66 : PySem.Str.ofString "PortRef.__init__" = (⟨⟨[80, 111, 114, 116, 82, 101, 102, 46, 95, 95, 105, 110, 105, 116, 95, 95]⟩⟩ : Str) := (PySem.W.Fast.ofString_ofList [Char.ofNat 80, Char.ofNat 111, Char.ofNat 114, Char.ofNat 116, Char.ofNat 82, Char.ofNat 101, Char.ofNat 102, Char.ofNat 46, Char.ofNat 95, Char.ofNat 95, Char.ofNat 105, Char.ofNat 110, Char.ofNat 105, Char.ofNat 116, Char.ofNat 95, Char.ofNat 95])
theorem ae67 : PySem.Str.ofString "Procedure" = (⟨⟨[80, 114, 111, 99, 101, 100, 117, 114, 101]⟩⟩ : Str) := (PySem.W.Fast.ofString_ofList [Char.ofNat 80, Char.ofNat 114, Char.ofNat 111, Char.ofNat 99, Char.ofNat 101, Char.ofNat 100, Char.ofNat 117, Char.ofNat 114, Char.ofNat 101])
theorem ae68 : PySem.Str.ofString "title" = (⟨⟨[116, 105, 116, 108, 101]⟩⟩ : Str) := (PySem.W.Fast.ofString_ofList [Char.ofNat 116, Char.ofNat 105, Char.ofNat 116, Char.ofNat 108, Char.ofNat 101])
theorem ae69 : PySem.Str.ofString "Procedure.__init__" = (⟨⟨[80, 114, 111, 99, 101, 100, 117, 114, 101, 46, 95, 95, 105, 110, 105, 116, 95, 95]⟩⟩ : Str) := (PySem.W.Fast.ofString_ofList [Char.ofNat 80, Char.ofNat 114, Char.ofNat 111, Char.ofNat 99, Char.ofNat 101, Char.ofNat 100, Char.ofNat 117, Char.ofNat 114, Char.ofNat 101, Char.ofNat 46, Char.ofNat 95, Char.ofNat 95, Char.ofNat 105, Char.ofNat 110, Char.ofNat 105, Char.ofNat 116, Char.ofNat 95, Char.ofNat 95])
theorem ae70 : PySem.Str.ofString "Primitive" = (⟨⟨[80, 114, 105, 109, 105, 116, 105, 118, 101]⟩⟩ : Str) := (PySem.W.Fast.ofString_ofList [Char.ofNat 80, Char.ofNat 114, Char.ofNat 105, Char.ofNat 109, Char.ofNat 105, Char.ofNat 116, Char.ofNat 105, Char.ofNat 118, Char.ofNat 101])
theorem ae71 : PySem.Str.ofString "make_text" = (⟨⟨[109, 97, 107, 101, 95, 116, 101, 120, 116]⟩⟩ : Str) := (PySem.W.Fast.ofString_ofList [Char.ofNat 109, Char.ofNat 97, Char.ofNat 107, Char.ofNat 101, Char.ofNat 95, Char.ofNat 116, Char.ofNat 101, Char.ofNat 120, Char.ofNat 116])
theorem ae72 : PySem.Str.ofString "python_text" = (⟨⟨[112, 121, 116, 104, 111, 110, 95, 116, 101, 120, 116]⟩⟩ : Str) := (PySem.W.Fast.ofString_ofList [Char.ofNat 112, Char.ofNat 121, Char.ofNat 116, Char.ofNat 104, Char.ofNat 111, Char.ofNat 110, Char.ofNat 95, Char.ofNat 116, Char.ofNat 101, Char.ofNat 120, Char.ofNat 116])
theorem ae73 : PySem.Str.ofString "list_of" = (⟨⟨[108, 105, 115, 116, 95, 111, 102]⟩⟩ : Str) := (PySem.W.Fast.ofString_ofList [Char.ofNat 108, Char.ofNat 105, Char.ofNat 115, Char.ofNat 116, Char.ofNat 95, Char.ofNat 111, Char.ofNat 102])
theorem ae74 : PySem.Str.ofString "split_list" = (⟨⟨[115, 112, 108, 105, 116, 95, 108, 105, 115, 116]⟩⟩ : Str) := (PySem.W.Fast.ofString_ofList [Char.ofNat 115, Char.ofNat 112, Char.ofNat 108, Char.ofNat 105, Char.ofNat 116, Char.ofNat 95, Char.ofNat 108, Char.ofNat 105, Char.ofNat 115, Char.ofNat 116])
theorem ae75 : PySem.Str.ofString "items_of" = (⟨⟨[105, 116, 101, 109, 115, 95, 111, 102]⟩⟩ : Str) := (PySem.W.Fast.ofString_ofList [Char.ofNat 105, Char.ofNat 116, Char.ofNat 101, Char.ofNat 109, Char.ofNat 115, Char.ofNat 95, Char.ofNat 111, Char.ofNat 102])
theorem ae76 : PySem.Str.ofString "op" = (⟨⟨[111, 112]⟩⟩ : Str) := (PySem.W.Fast.ofString_ofList [Char.ofNat 111, Char.ofNat 112])
theorem ae77 : PySem.Str.ofString "Primitive.__init__" = (⟨⟨[80, 114, 105, 109, 105, 116, 105, 118, 101, 46, 95, 95, 105, 110, 105, 116, 95, 95]⟩⟩ : Str) := (PySem.W.Fast.ofString_ofList [Char.ofNat 80, Char.ofNat 114, Char.ofNat 105, Char.ofNat 109, Char.ofNat 105, Char.ofNat 116, Char.ofNat 105, Char.ofNat 118, Char.ofNat 101, Char.ofNat 46, Char.ofNat 95, Char.ofNat 95, Char.ofNat 105, Char.ofNat 110, Char.ofNat 105, Char.ofNat 116, Char.ofNat 95, Char.ofNat 95])
theorem ae78 : PySem.Str.ofString "tail" = (⟨⟨[116, 97, 105, 108]⟩⟩ : Str) := (PySem.W.Fast.ofString_ofList [Char.ofNat 116, Char.ofNat 97, Char.ofNat 105, Char.ofNat 108])
theorem ae79 : PySem.Str.ofString "place" = (⟨⟨[112, 108, 97, 99, 101]⟩⟩ : Str) := (PySem.W.Fast.ofString_ofList [Char.ofNat 112, Char.ofNat 108, Char.ofNat 97, Char.ofNat 99, Char.ofNat 101])
theorem ae80 : PySem.Str.ofString "datum" = (⟨⟨[100, 97, 116, 117, 109]⟩⟩ : Str) := (PySem.W.Fast.ofString_ofList [Char.ofNat 100, Char.ofNat 97, Char.ofNat 116, Char.ofNat 117, Char.ofNat 109])
theorem ae81 : PySem.Str.ofString "at" = (⟨⟨[97, 116]⟩⟩ : Str) := (PySem.W.Fast.ofString_ofList [Char.ofNat 97, Char.ofNat 116])
theorem ae82 : PySem.Str.ofString "slow" = (⟨⟨[115, 108, 111, 119]⟩⟩ : Str) := (PySem.W.Fast.ofString_ofList [Char.ofNat 115, Char.ofNat 108, Char.ofNat 111, Char.ofNat 119])
theorem ae83 : PySem.Str.ofString "law_nt0165_01" = (⟨⟨[108, 97, 119, 95, 110, 116, 48, 49, 54, 53, 95, 48, 49]⟩⟩ : Str) := (PySem.W.Fast.ofString_ofList [Char.ofNat 108, Char.ofNat 97, Char.ofNat 119, Char.ofNat 95, Char.ofNat 110, Char.ofNat 116, Char.ofNat 48, Char.ofNat 49, Char.ofNat 54, Char.ofNat 53, Char.ofNat 95, Char.ofNat 48, Char.ofNat 49])
theorem ae84 : PySem.Str.ofString "is_proper" = (⟨⟨[105, 115, 95, 112, 114, 111, 112, 101, 114]⟩⟩ : Str) := (PySem.W.Fast.ofString_ofList [Char.ofNat 105, Char.ofNat 115, Char.ofNat 95, Char.ofNat 112, Char.ofNat 114, Char.ofNat 111, Char.ofNat 112, Char.ofNat 101, Char.ofNat 114])
theorem ae85 : PySem.Str.ofString "is_boolean" = (⟨⟨[105, 115, 95, 98, 111, 111, 108, 101, 97, 110]⟩⟩ : Str) := (PySem.W.Fast.ofString_ofList [Char.ofNat 105, Char.ofNat 115, Char.ofNat 95, Char.ofNat 98, Char.ofNat 111, Char.ofNat 111, Char.ofNat 108, Char.ofNat 101, Char.ofNat 97, Char.ofNat 110])
theorem ae86 : PySem.Str.ofString "is_true" = (⟨⟨[105, 115, 95, 116, 114, 117, 101]⟩⟩ : Str) := (PySem.W.Fast.ofString_ofList [Char.ofNat 105, Char.ofNat 115, Char.ofNat 95, Char.ofNat 116, Char.ofNat 114, Char.ofNat 117, Char.ofNat 101])
theorem ae87 : PySem.Str.ofString "is_whole" = (⟨⟨[105, 115, 95, 119, 104, 111, 108, 101]⟩⟩ : Str) := (PySem.W.Fast.ofString_ofList [Char.ofNat 105, Char.ofNat 115, Char.ofNat 95, Char.ofNat 119, Char.ofNat 104, Char.ofNat 111, Char.ofNat 108, Char.ofNat 101])
theorem ae88 : PySem.Str.ofString "is_symbol" = (⟨⟨[105, 115, 95, 115, 121, 109, 98, 111, 108]⟩⟩ : Str) := (PySem.W.Fast.ofString_ofList [Char.ofNat 105, Char.ofNat 115, Char.ofNat 95, Char.ofNat 115, Char.ofNat 121, Char.ofNat 109, Char.ofNat 98, Char.ofNat 111, Char.ofNat 108])
theorem ae89 : PySem.Str.ofString "kind_word" = (⟨⟨[107, 105, 110, 100, 95, 119, 111, 114, 100]⟩⟩ : Str) := (PySem.W.Fast.ofString_ofList [Char.ofNat 107, Char.ofNat 105, Char.ofNat 110, Char.ofNat 100, Char.ofNat 95, Char.ofNat 119, Char.ofNat 111, Char.ofNat 114, Char.ofNat 100])
theorem ae90 : PySem.Str.ofString "_law_draw" = (⟨⟨[95, 108, 97, 119, 95, 100, 114, 97, 119]⟩⟩ : Str) := (PySem.W.Fast.ofString_ofList [Char.ofNat 95, Char.ofNat 108, Char.ofNat 97, Char.ofNat 119, Char.ofNat 95, Char.ofNat 100, Char.ofNat 114, Char.ofNat 97, Char.ofNat 119])
theorem ae91 : PySem.Str.ofString "_law_is_table_right" = (⟨⟨[95, 108, 97, 119, 95, 105, 115, 95, 116, 97, 98, 108, 101, 95, 114, 105, 103, 104, 116]⟩⟩ : Str) := (PySem.W.Fast.ofString_ofList [Char.ofNat 95, Char.ofNat 108, Char.ofNat 97, Char.ofNat 119, Char.ofNat 95, Char.ofNat 105, Char.ofNat 115, Char.ofNat 95, Char.ofNat 116, Char.ofNat 97, Char.ofNat 98, Char.ofNat 108, Char.ofNat 101, Char.ofNat 95, Char.ofNat 114, Char.ofNat 105, Char.ofNat 103, Char.ofNat 104, Char.ofNat 116])
theorem ae92 : PySem.Str.ofString "_law_is_list_right" = (⟨⟨[95, 108, 97, 119, 95, 105, 115, 95, 108, 105, 115, 116, 95, 114, 105, 103, 104, 116]⟩⟩ : Str) := (PySem.W.Fast.ofString_ofList [Char.ofNat 95, Char.ofNat 108, Char.ofNat 97, Char.ofNat 119, Char.ofNat 95, Char.ofNat 105, Char.ofNat 115, Char.ofNat 95, Char.ofNat 108, Char.ofNat 105, Char.ofNat 115, Char.ofNat 116, Char.ofNat 95, Char.ofNat 114, Char.ofNat 105, Char.ofNat 103, Char.ofNat 104, Char.ofNat 116])
theorem ae93 : PySem.Str.ofString "_law_are_words_right" = (⟨⟨[95, 108, 97, 119, 95, 97, 114, 101, 95, 119, 111, 114, 100, 115, 95, 114, 105, 103, 104, 116]⟩⟩ : Str) := (PySem.W.Fast.ofString_ofList [Char.ofNat 95, Char.ofNat 108, Char.ofNat 97, Char.ofNat 119, Char.ofNat 95, Char.ofNat 97, Char.ofNat 114, Char.ofNat 101, Char.ofNat 95, Char.ofNat 119, Char.ofNat 111, Char.ofNat 114, Char.ofNat 100, Char.ofNat 115, Char.ofNat 95, Char.ofNat 114, Char.ofNat 105, Char.ofNat 103, Char.ofNat 104, Char.ofNat 116])
theorem ae94 : PySem.Str.ofString "law" = (⟨⟨[108, 97, 119]⟩⟩ : Str) := (PySem.W.Fast.ofString_ofList [Char.ofNat 108, Char.ofNat 97, Char.ofNat 119])
theorem ae95 : PySem.Str.ofString "<module>" = (⟨⟨[60, 109, 111, 100, 117, 108, 101, 62]⟩⟩ : Str) := (PySem.W.Fast.ofString_ofList [Char.ofNat 60, Char.ofNat 109, Char.ofNat 111, Char.ofNat 100, Char.ofNat 117, Char.ofNat 108, Char.ofNat 101, Char.ofNat 62])
theorem ae96 : PySem.Str.ofString "deck" = (⟨⟨[100, 101, 99, 107]⟩⟩ : Str) := (PySem.W.Fast.ofString_ofList [Char.ofNat 100, Char.ofNat 101, Char.ofNat 99, Char.ofNat 107])
theorem ae97 : PySem.Str.ofString "many" = (⟨⟨[109, 97, 110, 121]⟩⟩ : Str) := (PySem.W.Fast.ofString_ofList [Char.ofNat 109, Char.ofNat 97, Char.ofNat 110, Char.ofNat 121])
theorem ae98 : PySem.Str.ofString "__main__" = (⟨⟨[95, 95, 109, 97, 105, 110, 95, 95]⟩⟩ : Str) := (PySem.W.Fast.ofString_ofList [Char.ofNat 95, Char.ofNat 95, Char.ofNat 109, Char.ofNat 97, Char.ofNat 105, Char.ofNat 110, Char.ofNat 95, Char.ofNat 95])
theorem ae99 : PySem.Str.ofString "Special.__init__" = (⟨⟨[83, 112, 101, 99, 105, 97, 108, 46, 95, 95, 105, 110, 105, 116, 95, 95]⟩⟩ : Str) := (PySem.W.Fast.ofString_ofList [Char.ofNat 83, Char.ofNat 112, Char.ofNat 101, Char.ofNat 99, Char.ofNat 105, Char.ofNat 97, Char.ofNat 108, Char.ofNat 46, Char.ofNat 95, Char.ofNat 95, Char.ofNat 105, Char.ofNat 110, Char.ofNat 105, Char.ofNat 116, Char.ofNat 95, Char.ofNat 95])
theorem ae100 : PySem.Str.ofString "empty" = (⟨⟨[101, 109, 112, 116, 121]⟩⟩ : Str) := (PySem.W.Fast.ofString_ofList [Char.ofNat 101, Char.ofNat 109, Char.ofNat 112, Char.ofNat 116, Char.ofNat 121])
theorem ae101 : PySem.Str.ofString "unspecified" = (⟨⟨[117, 110, 115, 112, 101, 99, 105, 102, 105, 101, 100]⟩⟩ : Str) := (PySem.W.Fast.ofString_ofList [Char.ofNat 117, Char.ofNat 110, Char.ofNat 115, Char.ofNat 112, Char.ofNat 101, Char.ofNat 99, Char.ofNat 105, Char.ofNat 102, Char.ofNat 105, Char.ofNat 101, Char.ofNat 100])
theorem ae102 : PySem.Str.ofString "unassigned" = (⟨⟨[117, 110, 97, 115, 115, 105, 103, 110, 101, 100]⟩⟩ : Str) := (PySem.W.Fast.ofString_ofList [Char.ofNat 117, Char.ofNat 110, Char.ofNat 97, Char.ofNat 115, Char.ofNat 115, Char.ofNat 105, Char.ofNat 103, Char.ofNat 110, Char.ofNat 101, Char.ofNat 100])
theorem ae103 : PySem.Str.ofString "eof" = (⟨⟨[101, 111, 102]⟩⟩ : Str) := (PySem.W.Fast.ofString_ofList [Char.ofNat 101, Char.ofNat 111, Char.ofNat 102])
theorem ae104 : PySem.Str.ofString "" = (⟨⟨[]⟩⟩ : Str) := (PySem.W.Fast.ofString_ofList [])
theorem ck_eq {a0 a1 a2 a3 a4 a5 a6 a7 a8 a9 a10 a11 b0 b1 b2 b3 b4 b5 b6 b7 b8 b9 b10 b11 : Str} (h0 : a0 = b0) (h1 : a1 = b1) (h2 : a2 = b2) (h3 : a3 = b3) (h4 : a4 = b4) (h5 : a5 = b5) (h6 : a6 = b6) (h7 : a7 = b7) (h8 : a8 = b8) (h9 : a9 = b9) (h10 : a10 = b10) (h11 : a11 = b11) : Ck.mk a0 a1 a2 a3 a4 a5 a6 a7 a8 a9 a10 a11 = Ck.mk b0 b1 b2 b3 b4 b5 b6 b7 b8 b9 b10 b11 := by subst h0 h1 h2 h3 h4 h5 h6 h7 h8 h9 h10 h11; rfl
theorem at_eq {a0 a1 a2 a3 a4 a5 a6 a7 a8 b0 b1 b2 b3 b4 b5 b6 b7 b8 : Ck} (h0 : a0 = b0) (h1 : a1 = b1) (h2 : a2 = b2) (h3 : a3 = b3) (h4 : a4 = b4) (h5 : a5 = b5) (h6 : a6 = b6) (h7 : a7 = b7) (h8 : a8 = b8) : At.mk a0 a1 a2 a3 a4 a5 a6 a7 a8 = At.mk b0 b1 b2 b3 b4 b5 b6 b7 b8 := by subst h0 h1 h2 h3 h4 h5 h6 h7 h8; rfl
theorem ofS_eq : ofS = fsS := at_eq (ck_eq ae0 ae1 ae2 ae3 ae4 ae5 ae6 ae7 ae8 ae9 ae10 ae11) (ck_eq ae12 ae13 ae14 ae15 ae16 ae17 ae18 ae19 ae20 ae21 ae22 ae23) (ck_eq ae24 ae25 ae26 ae27 ae28 ae29 ae30 ae31 ae32 ae33 ae34 ae35) (ck_eq ae36 ae37 ae38 ae39 ae40 ae41 ae42 ae43 ae44 ae45 ae46 ae47) (ck_eq ae48 ae49 ae50 ae51 ae52 ae53 ae54 ae55 ae56 ae57 ae58 ae59) (ck_eq ae60 ae61 ae62 ae63 ae64 ae65 ae66 ae67 ae68 ae69 ae70 ae71) (ck_eq ae72 ae73 ae74 ae75 ae76 ae77 ae78 ae79 ae80 ae81 ae82 ae83) (ck_eq ae84 ae85 ae86 ae87 ae88 ae89 ae90 ae91 ae92 ae93 ae94 ae95) (ck_eq ae96 ae97 ae98 ae99 ae100 ae101 ae102 ae103 ae104 ae104 ae104 ae104)
noncomputable abbrev E := DictEntry.mk
noncomputable def o_43 (p : Program) (A : At) (P : Params) : Obj := (Obj.mk (Value.type "tuple") none (Data.seq (List.toArray []) 0) (List.toArray []))
noncomputable def o_44 (p : Program) (A : At) (P : Params) : Obj := (Obj.mk Value.none none (Data.fields (List.toArray [])) (List.toArray []))
noncomputable def o_45 (p : Program) (A : At) (P : Params) : Obj := (Obj.mk (Value.type "code") none (Data.fields (List.toArray [(.str A.k7.c11 182), (.str A.k7.c11 183), (.str A.k1.c7 184), (.int 1 0), (.int 0 0), (.int 0 0), (.int 0 0), (.int 0 0), (.ref 11), (.bool Bool.false), (.int 181 0), (.ref 12), Value.none, Value.none, Value.none, Value.none, (.int 185 0), (.int 1 0), (.str A.k1.c7 186)])) (List.toArray []))
noncomputable def o_46 (p : Program) (A : At) (P : Params) : Obj := (Obj.mk (Value.type "frame") none Data.plain (List.toArray [(some (.ref 13)), (some (.ref 3)), (some (.ref 3)), none, (some (.str A.k8.c2 164)), none, (some (.ref 0))]))
noncomputable def o_49 (p : Program) (A : At) (P : Params) : Obj := (Obj.mk (Value.type "dict") none (Data.dict (List.toArray [(E (PyData.keyHash P A.k1.c0) (.str A.k1.c0 165) (.str A.k0.c0 187)), (E (PyData.keyHash P A.k0.c10) (.str A.k0.c10 166) Value.none), (E (PyData.keyHash P A.k1.c1) (.str A.k1.c1 167) Value.none), (E (PyData.keyHash P A.k1.c2) (.str A.k1.c2 168) (Value.builtin "__main__.__loader__#opaque")), (E (PyData.keyHash P A.k1.c3) (.str A.k1.c3 169) Value.none), (E (PyData.keyHash P A.k1.c4) (.str A.k1.c4 170) (.ref 6)), (E (PyData.keyHash P A.k1.c5) (.str A.k1.c5 171) (.ref 4)), (E (PyData.keyHash P A.k1.c6) (.str A.k1.c6 173) (.str A.k1.c7 172)), (E (PyData.keyHash P A.k1.c8) (.str A.k1.c8 174) Value.none), (E (PyData.keyHash P A.k1.c9) (.str A.k1.c9 217) (.ref 31)), (E (PyData.keyHash P A.k1.c10) (.str A.k1.c10 223) (.ref 37))]) 11) (List.toArray []))
noncomputable def o_50 (p : Program) (A : At) (P : Params) : Obj := (Obj.mk Value.none none (Data.fields (List.toArray [(.int 2 0), (.int 0 0), (.ref 20)])) (List.toArray []))
noncomputable def o_51 (p : Program) (A : At) (P : Params) : Obj := (Obj.mk (Value.type "tuple") none (Data.seq (List.toArray []) 0) (List.toArray []))
noncomputable def o_52 (p : Program) (A : At) (P : Params) : Obj := (Obj.mk (Value.type "builtin_function_or_method") none (Data.fields (List.toArray [(Value.builtin "type.__prepare__"), (Value.type "type")])) (List.toArray []))
noncomputable def o_53 (p : Program) (A : At) (P : Params) : Obj := (Obj.mk (Value.type "dict") none (Data.dict (List.toArray [(E (PyData.keyHash P A.k0.c5) (.str A.k0.c5 196) (.str A.k0.c0 187)), (E (PyData.keyHash P A.k2.c3) (.str A.k2.c3 198) (.str A.k1.c9 197)), (E (PyData.keyHash P A.k0.c6) (.str A.k0.c6 200) (.int 2 199)), (E (PyData.keyHash P A.k0.c1) (.str A.k0.c1 208) (.ref 28)), (E (PyData.keyHash P A.k0.c7) (.str A.k0.c7 210) (.ref 29))]) 5) (List.toArray []))
noncomputable def o_54 (p : Program) (A : At) (P : Params) : Obj := (Obj.mk (Value.type "tuple") none (Data.seq (List.toArray []) 0) (List.toArray []))
noncomputable def o_55 (p : Program) (A : At) (P : Params) : Obj := (Obj.mk Value.none none (Data.fields (List.toArray [(.int 4 0), (.int 4 0), (.ref 27)])) (List.toArray []))
noncomputable def o_56 (p : Program) (A : At) (P : Params) : Obj := (Obj.mk (Value.type "code") none (Data.fields (List.toArray [(.str A.k1.c9 191), (.str A.k1.c9 192), (.str A.k1.c7 193), (.int 2 0), (.int 0 0), (.int 0 0), (.int 0 0), (.int 0 0), (.ref 18), (.bool Bool.false), (.int 181 0), (.ref 19), Value.none, Value.none, Value.none, Value.none, (.int 194 0), (.int 2 0), (.str A.k1.c7 195)])) (List.toArray []))
noncomputable def o_57 (p : Program) (A : At) (P : Params) : Obj := (Obj.mk (Value.type "frame") none Data.plain (List.toArray [(some (.ref 20)), (some (.ref 3)), (some (.ref 17)), none, (some (.str A.k0.c0 187)), none, (some (.ref 0))]))
noncomputable def o_58 (p : Program) (A : At) (P : Params) : Obj := (Obj.mk (Value.type "tuple") none (Data.seq (List.toArray []) 0) (List.toArray []))
noncomputable def o_59 (p : Program) (A : At) (P : Params) : Obj := (Obj.mk Value.none none (Data.fields (List.toArray [])) (List.toArray []))
noncomputable def o_60 (p : Program) (A : At) (P : Params) : Obj := (Obj.mk (Value.type "tuple") none (Data.seq (List.toArray [(.str A.k2.c10 204), (.str A.k5.c8 205)]) 0) (List.toArray []))
noncomputable def o_61 (p : Program) (A : At) (P : Params) : Obj := (Obj.mk (Value.type "tuple") none (Data.seq (List.toArray []) 0) (List.toArray []))
noncomputable def o_62 (p : Program) (A : At) (P : Params) : Obj := (Obj.mk Value.none none (Data.func (FuncData.mk A.k0.c1 A.k8.c3 (fnP (sbA (stA p 1) 0)) (.stmts (fnB (sbA (stA p 1) 0))) (fnS (sbA (stA p 1) 0)) 0 [] Value.none Value.none Value.none Value.none none Value.none Value.none 0)) (List.toArray []))
noncomputable def o_63 (p : Program) (A : At) (P : Params) : Obj := (Obj.mk (Value.type "code") none (Data.fields (List.toArray [(.str A.k0.c1 201), (.str A.k8.c3 202), (.str A.k1.c7 203), (.int 4 0), (.int 2 0), (.int 0 0), (.int 0 0), (.int 3 0), (.ref 22), (.bool Bool.true), (.int 181 0), (.ref 23), Value.none, (.ref 24), (.ref 25), (.ref 26), (.int 206 0), (.int 4 0), (.str A.k1.c7 207)])) (List.toArray []))
noncomputable def o_64 (p : Program) (A : At) (P : Params) : Obj := (Obj.mk (Value.type "function") none (Data.func (FuncData.mk A.k0.c1 A.k8.c3 (fnP (sbA (stA p 1) 0)) (.stmts (fnB (sbA (stA p 1) 0))) (fnS (sbA (stA p 1) 0)) 3 [] Value.none Value.none Value.none (.str A.k0.c0 187) none (.ref 27) Value.none 0)) (List.toArray []))
noncomputable def o_65 (p : Program) (A : At) (P : Params) : Obj := (Obj.mk (Value.type "tuple") none (Data.seq (List.toArray [(.str A.k5.c8 209)]) 0) (List.toArray []))
noncomputable def o_66 (p : Program) (A : At) (P : Params) : Obj := (Obj.mk (Value.type "dict") none (Data.dict (List.toArray [(E (PyData.keyHash P A.k0.c5) (.str A.k0.c5 196) (.str A.k0.c0 187)), (E (PyData.keyHash P A.k0.c6) (.str A.k0.c6 200) (.int 2 199)), (E (PyData.keyHash P A.k0.c1) (.str A.k0.c1 208) (.ref 28)), (E (PyData.keyHash P A.k0.c7) (.str A.k0.c7 210) (.ref 29)), (E (PyData.keyHash P A.k0.c8) (.str A.k0.c8 212) (.ref 32)), (E (PyData.keyHash P A.k0.c9) (.str A.k0.c9 214) (.ref 33)), (E (PyData.keyHash P A.k0.c10) (.str A.k0.c10 215) Value.none)]) 4) (List.toArray []))
noncomputable def o_67 (p : Program) (A : At) (P : Params) : Obj := (Obj.mk (Value.type "type") none (Data.cls (ClassData.mk A.k1.c9 [(Value.type "object")] [(.ref 31), (Value.type "object")] 30 A.k1.c9 Bool.true [] [] Bool.false none Bool.false)) (List.toArray [none, none, (some (.str A.k1.c9 189)), (some (.str A.k1.c9 197)), (some (Value.builtin "object.__new__")), (some (.bool Bool.true))]))
noncomputable def o_68 (p : Program) (A : At) (P : Params) : Obj := (Obj.mk (Value.type "getset_descriptor") none (Data.fields (List.toArray [(.str A.k0.c8 211), (.ref 31), (Value.builtin "function.__dict__"), (Value.builtin "function.__dict__#set")])) (List.toArray []))
noncomputable def o_69 (p : Program) (A : At) (P : Params) : Obj := (Obj.mk (Value.type "getset_descriptor") none (Data.fields (List.toArray [(.str A.k0.c9 213), (.ref 31), (Value.builtin "ExceptionGroup.__weakref__"), Value.none])) (List.toArray []))
noncomputable def o_70 (p : Program) (A : At) (P : Params) : Obj := (Obj.mk (Value.type "super") none (Data.fields (List.toArray [(.ref 31), (.ref 31), (.ref 31)])) (List.toArray []))
noncomputable def o_71 (p : Program) (A : At) (P : Params) : Obj := (Obj.mk (Value.type "builtin_function_or_method") none (Data.fields (List.toArray [(Value.builtin "object.__init_subclass__"), (.ref 31)])) (List.toArray []))
noncomputable def o_72 (p : Program) (A : At) (P : Params) : Obj := (Obj.mk (Value.type "dict") none (Data.dict (List.toArray [(E (PyData.keyHash P A.k5.c8) (.str A.k5.c8 222) (.str A.k8.c4 218))]) 1) (List.toArray []))
noncomputable def o_73 (p : Program) (A : At) (P : Params) : Obj := (Obj.mk (.ref 31) (some 36) Data.plain (List.toArray []))
noncomputable def o_74 (p : Program) (A : At) (P : Params) : Obj := (Obj.mk (Value.type "frame") none (Data.dict (List.toArray [(E (PyData.keyHash P A.k2.c10) (.str A.k2.c10 219) (.ref 37)), (E (PyData.keyHash P A.k5.c8) (.str A.k5.c8 220) (.str A.k8.c4 218))]) 2) (List.toArray []))
noncomputable def o_75 (p : Program) (A : At) (P : Params) : Obj := (Obj.mk (Value.type "dict") none (Data.dict (List.toArray [(E (PyData.keyHash P A.k1.c0) (.str A.k1.c0 165) (.str A.k0.c0 187)), (E (PyData.keyHash P A.k0.c10) (.str A.k0.c10 166) Value.none), (E (PyData.keyHash P A.k1.c1) (.str A.k1.c1 167) Value.none), (E (PyData.keyHash P A.k1.c2) (.str A.k1.c2 168) (Value.builtin "__main__.__loader__#opaque")), (E (PyData.keyHash P A.k1.c3) (.str A.k1.c3 169) Value.none), (E (PyData.keyHash P A.k1.c4) (.str A.k1.c4 170) (.ref 6)), (E (PyData.keyHash P A.k1.c5) (.str A.k1.c5 171) (.ref 4)), (E (PyData.keyHash P A.k1.c6) (.str A.k1.c6 173) (.str A.k1.c7 172)), (E (PyData.keyHash P A.k1.c8) (.str A.k1.c8 174) Value.none), (E (PyData.keyHash P A.k1.c9) (.str A.k1.c9 217) (.ref 31)), (E (PyData.keyHash P A.k1.c10) (.str A.k1.c10 223) (.ref 37)), (E (PyData.keyHash P A.k1.c11) (.str A.k1.c11 229) (.ref 40)), (E (PyData.keyHash P A.k2.c0) (.str A.k2.c0 235) (.ref 43)), (E (PyData.keyHash P A.k2.c1) (.str A.k2.c1 241) (.ref 46))]) 14) (List.toArray []))
noncomputable def o_76 (p : Program) (A : At) (P : Params) : Obj := (Obj.mk (Value.type "dict") none (Data.dict (List.toArray [(E (PyData.keyHash P A.k5.c8) (.str A.k5.c8 228) (.str A.k8.c5 224))]) 1) (List.toArray []))
noncomputable def o_77 (p : Program) (A : At) (P : Params) : Obj := (Obj.mk (.ref 31) (some 39) Data.plain (List.toArray []))
noncomputable def o_78 (p : Program) (A : At) (P : Params) : Obj := (Obj.mk (Value.type "frame") none (Data.dict (List.toArray [(E (PyData.keyHash P A.k2.c10) (.str A.k2.c10 225) (.ref 40)), (E (PyData.keyHash P A.k5.c8) (.str A.k5.c8 226) (.str A.k8.c5 224))]) 2) (List.toArray []))
noncomputable def o_79 (p : Program) (A : At) (P : Params) : Obj := (Obj.mk (Value.type "dict") none (Data.dict (List.toArray [(E (PyData.keyHash P A.k5.c8) (.str A.k5.c8 234) (.str A.k8.c6 230))]) 1) (List.toArray []))
noncomputable def o_80 (p : Program) (A : At) (P : Params) : Obj := (Obj.mk (.ref 31) (some 42) Data.plain (List.toArray []))
noncomputable def o_81 (p : Program) (A : At) (P : Params) : Obj := (Obj.mk (Value.type "frame") none (Data.dict (List.toArray [(E (PyData.keyHash P A.k2.c10) (.str A.k2.c10 231) (.ref 43)), (E (PyData.keyHash P A.k5.c8) (.str A.k5.c8 232) (.str A.k8.c6 230))]) 2) (List.toArray []))
noncomputable def o_82 (p : Program) (A : At) (P : Params) : Obj := (Obj.mk (Value.type "dict") none (Data.dict (List.toArray [(E (PyData.keyHash P A.k5.c8) (.str A.k5.c8 240) (.str A.k8.c7 236))]) 1) (List.toArray []))
noncomputable def o_83 (p : Program) (A : At) (P : Params) : Obj := (Obj.mk (.ref 31) (some 45) Data.plain (List.toArray []))
noncomputable def o_84 (p : Program) (A : At) (P : Params) : Obj := (Obj.mk (Value.type "frame") none (Data.dict (List.toArray [(E (PyData.keyHash P A.k2.c10) (.str A.k2.c10 237) (.ref 46)), (E (PyData.keyHash P A.k5.c8) (.str A.k5.c8 238) (.str A.k8.c7 236))]) 2) (List.toArray []))
noncomputable def o_85 (p : Program) (A : At) (P : Params) : Obj := (Obj.mk (Value.type "dict") none (Data.dict (List.toArray [(E (PyData.keyHash P A.k1.c0) (.str A.k1.c0 165) (.str A.k0.c0 187)), (E (PyData.keyHash P A.k0.c10) (.str A.k0.c10 166) Value.none), (E (PyData.keyHash P A.k1.c1) (.str A.k1.c1 167) Value.none), (E (PyData.keyHash P A.k1.c2) (.str A.k1.c2 168) (Value.builtin "__main__.__loader__#opaque")), (E (PyData.keyHash P A.k1.c3) (.str A.k1.c3 169) Value.none), (E (PyData.keyHash P A.k1.c4) (.str A.k1.c4 170) (.ref 6)), (E (PyData.keyHash P A.k1.c5) (.str A.k1.c5 171) (.ref 4)), (E (PyData.keyHash P A.k1.c6) (.str A.k1.c6 173) (.str A.k1.c7 172)), (E (PyData.keyHash P A.k1.c8) (.str A.k1.c8 174) Value.none), (E (PyData.keyHash P A.k1.c9) (.str A.k1.c9 217) (.ref 31)), (E (PyData.keyHash P A.k1.c10) (.str A.k1.c10 223) (.ref 37)), (E (PyData.keyHash P A.k1.c11) (.str A.k1.c11 229) (.ref 40)), (E (PyData.keyHash P A.k2.c0) (.str A.k2.c0 235) (.ref 43)), (E (PyData.keyHash P A.k2.c1) (.str A.k2.c1 241) (.ref 46)), (E (PyData.keyHash P A.k0.c11) (.str A.k0.c11 272) (.ref 64))]) 15) (List.toArray []))
noncomputable def o_86 (p : Program) (A : At) (P : Params) : Obj := (Obj.mk Value.none none (Data.fields (List.toArray [(.int 2 0), (.int 0 0), (.ref 20), (.int 10 0), (.int 0 0), (.ref 53)])) (List.toArray []))
noncomputable def o_87 (p : Program) (A : At) (P : Params) : Obj := (Obj.mk (Value.type "tuple") none (Data.seq (List.toArray []) 0) (List.toArray []))
noncomputable def o_88 (p : Program) (A : At) (P : Params) : Obj := (Obj.mk (Value.type "builtin_function_or_method") none (Data.fields (List.toArray [(Value.builtin "type.__prepare__"), (Value.type "type")])) (List.toArray []))
noncomputable def o_89 (p : Program) (A : At) (P : Params) : Obj := (Obj.mk (Value.type "dict") none (Data.dict (List.toArray [(E (PyData.keyHash P A.k0.c5) (.str A.k0.c5 249) (.str A.k0.c0 187)), (E (PyData.keyHash P A.k2.c3) (.str A.k2.c3 251) (.str A.k0.c11 250)), (E (PyData.keyHash P A.k0.c6) (.str A.k0.c6 253) (.int 10 252)), (E (PyData.keyHash P A.k0.c1) (.str A.k0.c1 262) (.ref 61)), (E (PyData.keyHash P A.k0.c7) (.str A.k0.c7 265) (.ref 62))]) 5) (List.toArray []))
noncomputable def o_90 (p : Program) (A : At) (P : Params) : Obj := (Obj.mk (Value.type "tuple") none (Data.seq (List.toArray []) 0) (List.toArray []))
noncomputable def o_91 (p : Program) (A : At) (P : Params) : Obj := (Obj.mk Value.none none (Data.fields (List.toArray [(.int 12 0), (.int 4 0), (.ref 60)])) (List.toArray []))
noncomputable def o_92 (p : Program) (A : At) (P : Params) : Obj := (Obj.mk (Value.type "code") none (Data.fields (List.toArray [(.str A.k0.c11 244), (.str A.k0.c11 245), (.str A.k1.c7 246), (.int 10 0), (.int 0 0), (.int 0 0), (.int 0 0), (.int 0 0), (.ref 51), (.bool Bool.false), (.int 181 0), (.ref 52), Value.none, Value.none, Value.none, Value.none, (.int 247 0), (.int 10 0), (.str A.k1.c7 248)])) (List.toArray []))
noncomputable def o_93 (p : Program) (A : At) (P : Params) : Obj := (Obj.mk (Value.type "frame") none Data.plain (List.toArray [(some (.ref 53)), (some (.ref 3)), (some (.ref 50)), none, (some (.str A.k0.c0 187)), none, (some (.ref 0))]))
noncomputable def o_94 (p : Program) (A : At) (P : Params) : Obj := (Obj.mk (Value.type "tuple") none (Data.seq (List.toArray []) 0) (List.toArray []))
noncomputable def o_95 (p : Program) (A : At) (P : Params) : Obj := (Obj.mk Value.none none (Data.fields (List.toArray [])) (List.toArray []))
noncomputable def o_96 (p : Program) (A : At) (P : Params) : Obj := (Obj.mk (Value.type "tuple") none (Data.seq (List.toArray [(.str A.k2.c10 257), (.str A.k0.c3 258), (.str A.k0.c4 259)]) 0) (List.toArray []))
noncomputable def o_97 (p : Program) (A : At) (P : Params) : Obj := (Obj.mk (Value.type "tuple") none (Data.seq (List.toArray []) 0) (List.toArray []))
noncomputable def o_98 (p : Program) (A : At) (P : Params) : Obj := (Obj.mk Value.none none (Data.func (FuncData.mk A.k0.c1 A.k0.c2 (fnP (sbA (stA p 6) 0)) (.stmts (fnB (sbA (stA p 6) 0))) (fnS (sbA (stA p 6) 0)) 0 [] Value.none Value.none Value.none Value.none none Value.none Value.none 0)) (List.toArray []))
noncomputable def o_99 (p : Program) (A : At) (P : Params) : Obj := (Obj.mk (Value.type "code") none (Data.fields (List.toArray [(.str A.k0.c1 254), (.str A.k0.c2 255), (.str A.k1.c7 256), (.int 12 0), (.int 3 0), (.int 0 0), (.int 0 0), (.int 3 0), (.ref 55), (.bool Bool.true), (.int 181 0), (.ref 56), Value.none, (.ref 57), (.ref 58), (.ref 59), (.int 260 0), (.int 12 0), (.str A.k1.c7 261)])) (List.toArray []))
noncomputable def o_100 (p : Program) (A : At) (P : Params) : Obj := (Obj.mk (Value.type "function") none (Data.func (FuncData.mk A.k0.c1 A.k0.c2 (fnP (sbA (stA p 6) 0)) (.stmts (fnB (sbA (stA p 6) 0))) (fnS (sbA (stA p 6) 0)) 3 [] Value.none Value.none Value.none (.str A.k0.c0 187) none (.ref 60) Value.none 0)) (List.toArray []))
noncomputable def o_101 (p : Program) (A : At) (P : Params) : Obj := (Obj.mk (Value.type "tuple") none (Data.seq (List.toArray [(.str A.k0.c3 263), (.str A.k0.c4 264)]) 0) (List.toArray []))
noncomputable def o_102 (p : Program) (A : At) (P : Params) : Obj := (Obj.mk (Value.type "dict") none (Data.dict (List.toArray [(E (PyData.keyHash P A.k0.c5) (.str A.k0.c5 249) (.str A.k0.c0 187)), (E (PyData.keyHash P A.k0.c6) (.str A.k0.c6 253) (.int 10 252)), (E (PyData.keyHash P A.k0.c1) (.str A.k0.c1 262) (.ref 61)), (E (PyData.keyHash P A.k0.c7) (.str A.k0.c7 265) (.ref 62)), (E (PyData.keyHash P A.k0.c8) (.str A.k0.c8 267) (.ref 65)), (E (PyData.keyHash P A.k0.c9) (.str A.k0.c9 269) (.ref 66)), (E (PyData.keyHash P A.k0.c10) (.str A.k0.c10 270) Value.none)]) 4) (List.toArray []))
noncomputable def o_103 (p : Program) (A : At) (P : Params) : Obj := (Obj.mk (Value.type "type") none (Data.cls (ClassData.mk A.k0.c11 [(Value.type "object")] [(.ref 64), (Value.type "object")] 63 A.k0.c11 Bool.true [] [] Bool.false none Bool.false)) (List.toArray [none, none, (some (.str A.k0.c11 242)), (some (.str A.k0.c11 250)), (some (Value.builtin "object.__new__")), (some (.bool Bool.true))]))
noncomputable def o_104 (p : Program) (A : At) (P : Params) : Obj := (Obj.mk (Value.type "getset_descriptor") none (Data.fields (List.toArray [(.str A.k0.c8 266), (.ref 64), (Value.builtin "function.__dict__"), (Value.builtin "function.__dict__#set")])) (List.toArray []))
noncomputable def o_105 (p : Program) (A : At) (P : Params) : Obj := (Obj.mk (Value.type "getset_descriptor") none (Data.fields (List.toArray [(.str A.k0.c9 268), (.ref 64), (Value.builtin "ExceptionGroup.__weakref__"), Value.none])) (List.toArray []))
noncomputable def o_106 (p : Program) (A : At) (P : Params) : Obj := (Obj.mk (Value.type "super") none (Data.fields (List.toArray [(.ref 64), (.ref 64), (.ref 64)])) (List.toArray []))
noncomputable def o_107 (p : Program) (A : At) (P : Params) : Obj := (Obj.mk (Value.type "builtin_function_or_method") none (Data.fields (List.toArray [(Value.builtin "object.__init_subclass__"), (.ref 64)])) (List.toArray []))
noncomputable def o_108 (p : Program) (A : At) (P : Params) : Obj := (Obj.mk (Value.type "dict") none (Data.dict (List.toArray [(E (PyData.keyHash P A.k1.c0) (.str A.k1.c0 165) (.str A.k0.c0 187)), (E (PyData.keyHash P A.k0.c10) (.str A.k0.c10 166) Value.none), (E (PyData.keyHash P A.k1.c1) (.str A.k1.c1 167) Value.none), (E (PyData.keyHash P A.k1.c2) (.str A.k1.c2 168) (Value.builtin "__main__.__loader__#opaque")), (E (PyData.keyHash P A.k1.c3) (.str A.k1.c3 169) Value.none), (E (PyData.keyHash P A.k1.c4) (.str A.k1.c4 170) (.ref 6)), (E (PyData.keyHash P A.k1.c5) (.str A.k1.c5 171) (.ref 4)), (E (PyData.keyHash P A.k1.c6) (.str A.k1.c6 173) (.str A.k1.c7 172)), (E (PyData.keyHash P A.k1.c8) (.str A.k1.c8 174) Value.none), (E (PyData.keyHash P A.k1.c9) (.str A.k1.c9 217) (.ref 31)), (E (PyData.keyHash P A.k1.c10) (.str A.k1.c10 223) (.ref 37)), (E (PyData.keyHash P A.k1.c11) (.str A.k1.c11 229) (.ref 40)), (E (PyData.keyHash P A.k2.c0) (.str A.k2.c0 235) (.ref 43)), (E (PyData.keyHash P A.k2.c1) (.str A.k2.c1 241) (.ref 46)), (E (PyData.keyHash P A.k0.c11) (.str A.k0.c11 272) (.ref 64)), (E (PyData.keyHash P A.k2.c2) (.str A.k2.c2 350) (.ref 127))]) 16) (List.toArray []))
noncomputable def o_109 (p : Program) (A : At) (P : Params) : Obj := (Obj.mk Value.none none (Data.fields (List.toArray [(.int 2 0), (.int 0 0), (.ref 20), (.int 10 0), (.int 0 0), (.ref 53), (.int 15 0), (.int 0 0), (.ref 74)])) (List.toArray []))
noncomputable def o_110 (p : Program) (A : At) (P : Params) : Obj := (Obj.mk (Value.type "tuple") none (Data.seq (List.toArray []) 0) (List.toArray []))
noncomputable def o_111 (p : Program) (A : At) (P : Params) : Obj := (Obj.mk (Value.type "builtin_function_or_method") none (Data.fields (List.toArray [(Value.builtin "type.__prepare__"), (Value.type "type")])) (List.toArray []))
noncomputable def o_112 (p : Program) (A : At) (P : Params) : Obj := (Obj.mk (Value.type "dict") none (Data.dict (List.toArray [(E (PyData.keyHash P A.k0.c5) (.str A.k0.c5 280) (.str A.k0.c0 187)), (E (PyData.keyHash P A.k2.c3) (.str A.k2.c3 282) (.str A.k2.c2 281)), (E (PyData.keyHash P A.k0.c6) (.str A.k0.c6 284) (.int 15 283)), (E (PyData.keyHash P A.k0.c1) (.str A.k0.c1 291) (.ref 82)), (E (PyData.keyHash P A.k2.c4) (.str A.k2.c4 300) (.ref 89)), (E (PyData.keyHash P A.k2.c5) (.str A.k2.c5 309) (.ref 96)), (E (PyData.keyHash P A.k2.c6) (.str A.k2.c6 317) (.ref 103)), (E (PyData.keyHash P A.k2.c7) (.str A.k2.c7 325) (.ref 110)), (E (PyData.keyHash P A.k2.c8) (.str A.k2.c8 333) (.ref 117)), (E (PyData.keyHash P A.k2.c9) (.str A.k2.c9 340) (.ref 124)), (E (PyData.keyHash P A.k0.c7) (.str A.k0.c7 343) (.ref 125))]) 11) (List.toArray []))
noncomputable def o_113 (p : Program) (A : At) (P : Params) : Obj := (Obj.mk (Value.type "tuple") none (Data.seq (List.toArray []) 0) (List.toArray []))
noncomputable def o_114 (p : Program) (A : At) (P : Params) : Obj := (Obj.mk Value.none none (Data.fields (List.toArray [(.int 17 0), (.int 4 0), (.ref 81), (.int 21 0), (.int 4 0), (.ref 88), (.int 29 0), (.int 4 0), (.ref 95), (.int 34 0), (.int 4 0), (.ref 102), (.int 37 0), (.int 4 0), (.ref 109), (.int 40 0), (.int 4 0), (.ref 116), (.int 43 0), (.int 4 0), (.ref 123)])) (List.toArray []))
noncomputable def o_115 (p : Program) (A : At) (P : Params) : Obj := (Obj.mk (Value.type "code") none (Data.fields (List.toArray [(.str A.k2.c2 275), (.str A.k2.c2 276), (.str A.k1.c7 277), (.int 15 0), (.int 0 0), (.int 0 0), (.int 0 0), (.int 0 0), (.ref 72), (.bool Bool.false), (.int 181 0), (.ref 73), Value.none, Value.none, Value.none, Value.none, (.int 278 0), (.int 15 0), (.str A.k1.c7 279)])) (List.toArray []))
noncomputable def o_116 (p : Program) (A : At) (P : Params) : Obj := (Obj.mk (Value.type "frame") none Data.plain (List.toArray [(some (.ref 74)), (some (.ref 3)), (some (.ref 71)), none, (some (.str A.k0.c0 187)), none, (some (.ref 0))]))
noncomputable def o_117 (p : Program) (A : At) (P : Params) : Obj := (Obj.mk (Value.type "tuple") none (Data.seq (List.toArray []) 0) (List.toArray []))
noncomputable def o_118 (p : Program) (A : At) (P : Params) : Obj := (Obj.mk Value.none none (Data.fields (List.toArray [])) (List.toArray []))
noncomputable def o_119 (p : Program) (A : At) (P : Params) : Obj := (Obj.mk (Value.type "tuple") none (Data.seq (List.toArray [(.str A.k2.c10 288)]) 0) (List.toArray []))
noncomputable def o_120 (p : Program) (A : At) (P : Params) : Obj := (Obj.mk (Value.type "tuple") none (Data.seq (List.toArray []) 0) (List.toArray []))
noncomputable def o_121 (p : Program) (A : At) (P : Params) : Obj := (Obj.mk Value.none none (Data.func (FuncData.mk A.k0.c1 A.k2.c11 (fnP (sbA (stA p 7) 0)) (.stmts (fnB (sbA (stA p 7) 0))) (fnS (sbA (stA p 7) 0)) 0 [] Value.none Value.none Value.none Value.none none Value.none Value.none 0)) (List.toArray []))
noncomputable def o_122 (p : Program) (A : At) (P : Params) : Obj := (Obj.mk (Value.type "code") none (Data.fields (List.toArray [(.str A.k0.c1 285), (.str A.k2.c11 286), (.str A.k1.c7 287), (.int 17 0), (.int 1 0), (.int 0 0), (.int 0 0), (.int 3 0), (.ref 76), (.bool Bool.true), (.int 181 0), (.ref 77), Value.none, (.ref 78), (.ref 79), (.ref 80), (.int 289 0), (.int 17 0), (.str A.k1.c7 290)])) (List.toArray []))
noncomputable def o_123 (p : Program) (A : At) (P : Params) : Obj := (Obj.mk (Value.type "function") none (Data.func (FuncData.mk A.k0.c1 A.k2.c11 (fnP (sbA (stA p 7) 0)) (.stmts (fnB (sbA (stA p 7) 0))) (fnS (sbA (stA p 7) 0)) 3 [] Value.none Value.none Value.none (.str A.k0.c0 187) none (.ref 81) Value.none 0)) (List.toArray []))
noncomputable def o_124 (p : Program) (A : At) (P : Params) : Obj := (Obj.mk (Value.type "tuple") none (Data.seq (List.toArray []) 0) (List.toArray []))
noncomputable def o_125 (p : Program) (A : At) (P : Params) : Obj := (Obj.mk Value.none none (Data.fields (List.toArray [])) (List.toArray []))
noncomputable def o_126 (p : Program) (A : At) (P : Params) : Obj := (Obj.mk (Value.type "tuple") none (Data.seq (List.toArray [(.str A.k2.c10 295), (.str A.k0.c4 296), (.str A.k3.c0 297)]) 0) (List.toArray []))
noncomputable def o_127 (p : Program) (A : At) (P : Params) : Obj := (Obj.mk (Value.type "tuple") none (Data.seq (List.toArray []) 0) (List.toArray []))
noncomputable def o_128 (p : Program) (A : At) (P : Params) : Obj := (Obj.mk Value.none none (Data.func (FuncData.mk A.k2.c4 A.k3.c1 (fnP (sbA (stA p 7) 1)) (.stmts (fnB (sbA (stA p 7) 1))) (fnS (sbA (stA p 7) 1)) 0 [] Value.none Value.none Value.none Value.none none Value.none Value.none 0)) (List.toArray []))
noncomputable def o_129 (p : Program) (A : At) (P : Params) : Obj := (Obj.mk (Value.type "code") none (Data.fields (List.toArray [(.str A.k2.c4 292), (.str A.k3.c1 293), (.str A.k1.c7 294), (.int 21 0), (.int 2 0), (.int 0 0), (.int 0 0), (.int 3 0), (.ref 83), (.bool Bool.true), (.int 181 0), (.ref 84), Value.none, (.ref 85), (.ref 86), (.ref 87), (.int 298 0), (.int 21 0), (.str A.k1.c7 299)])) (List.toArray []))
noncomputable def o_130 (p : Program) (A : At) (P : Params) : Obj := (Obj.mk (Value.type "function") none (Data.func (FuncData.mk A.k2.c4 A.k3.c1 (fnP (sbA (stA p 7) 1)) (.stmts (fnB (sbA (stA p 7) 1))) (fnS (sbA (stA p 7) 1)) 3 [] Value.none Value.none Value.none (.str A.k0.c0 187) none (.ref 88) Value.none 0)) (List.toArray []))
noncomputable def o_131 (p : Program) (A : At) (P : Params) : Obj := (Obj.mk (Value.type "tuple") none (Data.seq (List.toArray []) 0) (List.toArray []))
noncomputable def o_132 (p : Program) (A : At) (P : Params) : Obj := (Obj.mk Value.none none (Data.fields (List.toArray [])) (List.toArray []))
noncomputable def o_133 (p : Program) (A : At) (P : Params) : Obj := (Obj.mk (Value.type "tuple") none (Data.seq (List.toArray [(.str A.k2.c10 304), (.str A.k3.c2 305), (.str A.k3.c0 306)]) 0) (List.toArray []))
noncomputable def o_134 (p : Program) (A : At) (P : Params) : Obj := (Obj.mk (Value.type "tuple") none (Data.seq (List.toArray []) 0) (List.toArray []))
noncomputable def o_135 (p : Program) (A : At) (P : Params) : Obj := (Obj.mk Value.none none (Data.func (FuncData.mk A.k2.c5 A.k3.c3 (fnP (sbA (stA p 7) 2)) (.stmts (fnB (sbA (stA p 7) 2))) (fnS (sbA (stA p 7) 2)) 0 [] Value.none Value.none Value.none Value.none none Value.none Value.none 0)) (List.toArray []))
noncomputable def o_136 (p : Program) (A : At) (P : Params) : Obj := (Obj.mk (Value.type "code") none (Data.fields (List.toArray [(.str A.k2.c5 301), (.str A.k3.c3 302), (.str A.k1.c7 303), (.int 29 0), (.int 2 0), (.int 0 0), (.int 0 0), (.int 3 0), (.ref 90), (.bool Bool.true), (.int 181 0), (.ref 91), Value.none, (.ref 92), (.ref 93), (.ref 94), (.int 307 0), (.int 29 0), (.str A.k1.c7 308)])) (List.toArray []))
noncomputable def o_137 (p : Program) (A : At) (P : Params) : Obj := (Obj.mk (Value.type "function") none (Data.func (FuncData.mk A.k2.c5 A.k3.c3 (fnP (sbA (stA p 7) 2)) (.stmts (fnB (sbA (stA p 7) 2))) (fnS (sbA (stA p 7) 2)) 3 [] Value.none Value.none Value.none (.str A.k0.c0 187) none (.ref 95) Value.none 0)) (List.toArray []))
noncomputable def o_138 (p : Program) (A : At) (P : Params) : Obj := (Obj.mk (Value.type "tuple") none (Data.seq (List.toArray []) 0) (List.toArray []))
noncomputable def o_139 (p : Program) (A : At) (P : Params) : Obj := (Obj.mk Value.none none (Data.fields (List.toArray [])) (List.toArray []))
noncomputable def o_140 (p : Program) (A : At) (P : Params) : Obj := (Obj.mk (Value.type "tuple") none (Data.seq (List.toArray [(.str A.k2.c10 313), (.str A.k0.c3 314)]) 0) (List.toArray []))
noncomputable def o_141 (p : Program) (A : At) (P : Params) : Obj := (Obj.mk (Value.type "tuple") none (Data.seq (List.toArray []) 0) (List.toArray []))
noncomputable def o_142 (p : Program) (A : At) (P : Params) : Obj := (Obj.mk Value.none none (Data.func (FuncData.mk A.k2.c6 A.k3.c4 (fnP (sbA (stA p 7) 3)) (.stmts (fnB (sbA (stA p 7) 3))) (fnS (sbA (stA p 7) 3)) 0 [] Value.none Value.none Value.none Value.none none Value.none Value.none 0)) (List.toArray []))
noncomputable def o_143 (p : Program) (A : At) (P : Params) : Obj := (Obj.mk (Value.type "code") none (Data.fields (List.toArray [(.str A.k2.c6 310), (.str A.k3.c4 311), (.str A.k1.c7 312), (.int 34 0), (.int 2 0), (.int 0 0), (.int 0 0), (.int 3 0), (.ref 97), (.bool Bool.true), (.int 181 0), (.ref 98), Value.none, (.ref 99), (.ref 100), (.ref 101), (.int 315 0), (.int 34 0), (.str A.k1.c7 316)])) (List.toArray []))
noncomputable def o_144 (p : Program) (A : At) (P : Params) : Obj := (Obj.mk (Value.type "function") none (Data.func (FuncData.mk A.k2.c6 A.k3.c4 (fnP (sbA (stA p 7) 3)) (.stmts (fnB (sbA (stA p 7) 3))) (fnS (sbA (stA p 7) 3)) 3 [] Value.none Value.none Value.none (.str A.k0.c0 187) none (.ref 102) Value.none 0)) (List.toArray []))
noncomputable def o_145 (p : Program) (A : At) (P : Params) : Obj := (Obj.mk (Value.type "tuple") none (Data.seq (List.toArray []) 0) (List.toArray []))
noncomputable def o_146 (p : Program) (A : At) (P : Params) : Obj := (Obj.mk Value.none none (Data.fields (List.toArray [])) (List.toArray []))
noncomputable def o_147 (p : Program) (A : At) (P : Params) : Obj := (Obj.mk (Value.type "tuple") none (Data.seq (List.toArray [(.str A.k2.c10 321), (.str A.k0.c4 322)]) 0) (List.toArray []))
noncomputable def o_148 (p : Program) (A : At) (P : Params) : Obj := (Obj.mk (Value.type "tuple") none (Data.seq (List.toArray []) 0) (List.toArray []))
noncomputable def o_149 (p : Program) (A : At) (P : Params) : Obj := (Obj.mk Value.none none (Data.func (FuncData.mk A.k2.c7 A.k3.c5 (fnP (sbA (stA p 7) 4)) (.stmts (fnB (sbA (stA p 7) 4))) (fnS (sbA (stA p 7) 4)) 0 [] Value.none Value.none Value.none Value.none none Value.none Value.none 0)) (List.toArray []))
noncomputable def o_150 (p : Program) (A : At) (P : Params) : Obj := (Obj.mk (Value.type "code") none (Data.fields (List.toArray [(.str A.k2.c7 318), (.str A.k3.c5 319), (.str A.k1.c7 320), (.int 37 0), (.int 2 0), (.int 0 0), (.int 0 0), (.int 3 0), (.ref 104), (.bool Bool.true), (.int 181 0), (.ref 105), Value.none, (.ref 106), (.ref 107), (.ref 108), (.int 323 0), (.int 37 0), (.str A.k1.c7 324)])) (List.toArray []))
noncomputable def o_151 (p : Program) (A : At) (P : Params) : Obj := (Obj.mk (Value.type "function") none (Data.func (FuncData.mk A.k2.c7 A.k3.c5 (fnP (sbA (stA p 7) 4)) (.stmts (fnB (sbA (stA p 7) 4))) (fnS (sbA (stA p 7) 4)) 3 [] Value.none Value.none Value.none (.str A.k0.c0 187) none (.ref 109) Value.none 0)) (List.toArray []))
noncomputable def o_152 (p : Program) (A : At) (P : Params) : Obj := (Obj.mk (Value.type "tuple") none (Data.seq (List.toArray []) 0) (List.toArray []))
noncomputable def o_153 (p : Program) (A : At) (P : Params) : Obj := (Obj.mk Value.none none (Data.fields (List.toArray [])) (List.toArray []))
noncomputable def o_154 (p : Program) (A : At) (P : Params) : Obj := (Obj.mk (Value.type "tuple") none (Data.seq (List.toArray [(.str A.k2.c10 329), (.str A.k2.c4 330)]) 0) (List.toArray []))
noncomputable def o_155 (p : Program) (A : At) (P : Params) : Obj := (Obj.mk (Value.type "tuple") none (Data.seq (List.toArray []) 0) (List.toArray []))
noncomputable def o_156 (p : Program) (A : At) (P : Params) : Obj := (Obj.mk Value.none none (Data.func (FuncData.mk A.k2.c8 A.k3.c6 (fnP (sbA (stA p 7) 5)) (.stmts (fnB (sbA (stA p 7) 5))) (fnS (sbA (stA p 7) 5)) 0 [] Value.none Value.none Value.none Value.none none Value.none Value.none 0)) (List.toArray []))
noncomputable def o_157 (p : Program) (A : At) (P : Params) : Obj := (Obj.mk (Value.type "code") none (Data.fields (List.toArray [(.str A.k2.c8 326), (.str A.k3.c6 327), (.str A.k1.c7 328), (.int 40 0), (.int 2 0), (.int 0 0), (.int 0 0), (.int 3 0), (.ref 111), (.bool Bool.true), (.int 181 0), (.ref 112), Value.none, (.ref 113), (.ref 114), (.ref 115), (.int 331 0), (.int 40 0), (.str A.k1.c7 332)])) (List.toArray []))
noncomputable def o_158 (p : Program) (A : At) (P : Params) : Obj := (Obj.mk (Value.type "function") none (Data.func (FuncData.mk A.k2.c8 A.k3.c6 (fnP (sbA (stA p 7) 5)) (.stmts (fnB (sbA (stA p 7) 5))) (fnS (sbA (stA p 7) 5)) 3 [] Value.none Value.none Value.none (.str A.k0.c0 187) none (.ref 116) Value.none 0)) (List.toArray []))
noncomputable def o_159 (p : Program) (A : At) (P : Params) : Obj := (Obj.mk (Value.type "tuple") none (Data.seq (List.toArray []) 0) (List.toArray []))
noncomputable def o_160 (p : Program) (A : At) (P : Params) : Obj := (Obj.mk Value.none none (Data.fields (List.toArray [])) (List.toArray []))
noncomputable def o_161 (p : Program) (A : At) (P : Params) : Obj := (Obj.mk (Value.type "tuple") none (Data.seq (List.toArray [(.str A.k2.c10 337)]) 0) (List.toArray []))
noncomputable def o_162 (p : Program) (A : At) (P : Params) : Obj := (Obj.mk (Value.type "tuple") none (Data.seq (List.toArray []) 0) (List.toArray []))
noncomputable def o_163 (p : Program) (A : At) (P : Params) : Obj := (Obj.mk Value.none none (Data.func (FuncData.mk A.k2.c9 A.k3.c7 (fnP (sbA (stA p 7) 6)) (.stmts (fnB (sbA (stA p 7) 6))) (fnS (sbA (stA p 7) 6)) 0 [] Value.none Value.none Value.none Value.none none Value.none Value.none 0)) (List.toArray []))
noncomputable def o_164 (p : Program) (A : At) (P : Params) : Obj := (Obj.mk (Value.type "code") none (Data.fields (List.toArray [(.str A.k2.c9 334), (.str A.k3.c7 335), (.str A.k1.c7 336), (.int 43 0), (.int 1 0), (.int 0 0), (.int 0 0), (.int 3 0), (.ref 118), (.bool Bool.true), (.int 181 0), (.ref 119), Value.none, (.ref 120), (.ref 121), (.ref 122), (.int 338 0), (.int 43 0), (.str A.k1.c7 339)])) (List.toArray []))
noncomputable def o_165 (p : Program) (A : At) (P : Params) : Obj := (Obj.mk (Value.type "function") none (Data.func (FuncData.mk A.k2.c9 A.k3.c7 (fnP (sbA (stA p 7) 6)) (.stmts (fnB (sbA (stA p 7) 6))) (fnS (sbA (stA p 7) 6)) 3 [] Value.none Value.none Value.none (.str A.k0.c0 187) none (.ref 123) Value.none 0)) (List.toArray []))
noncomputable def o_166 (p : Program) (A : At) (P : Params) : Obj := (Obj.mk (Value.type "tuple") none (Data.seq (List.toArray [(.str A.k3.c8 341), (.str A.k3.c9 342)]) 0) (List.toArray []))
noncomputable def o_167 (p : Program) (A : At) (P : Params) : Obj := (Obj.mk (Value.type "dict") none (Data.dict (List.toArray [(E (PyData.keyHash P A.k0.c5) (.str A.k0.c5 280) (.str A.k0.c0 187)), (E (PyData.keyHash P A.k0.c6) (.str A.k0.c6 284) (.int 15 283)), (E (PyData.keyHash P A.k0.c1) (.str A.k0.c1 291) (.ref 82)), (E (PyData.keyHash P A.k2.c4) (.str A.k2.c4 300) (.ref 89)), (E (PyData.keyHash P A.k2.c5) (.str A.k2.c5 309) (.ref 96)), (E (PyData.keyHash P A.k2.c6) (.str A.k2.c6 317) (.ref 103)), (E (PyData.keyHash P A.k2.c7) (.str A.k2.c7 325) (.ref 110)), (E (PyData.keyHash P A.k2.c8) (.str A.k2.c8 333) (.ref 117)), (E (PyData.keyHash P A.k2.c9) (.str A.k2.c9 340) (.ref 124)), (E (PyData.keyHash P A.k0.c7) (.str A.k0.c7 343) (.ref 125)), (E (PyData.keyHash P A.k0.c8) (.str A.k0.c8 345) (.ref 128)), (E (PyData.keyHash P A.k0.c9) (.str A.k0.c9 347) (.ref 129)), (E (PyData.keyHash P A.k0.c10) (.str A.k0.c10 348) Value.none)]) 4) (List.toArray []))
noncomputable def o_168 (p : Program) (A : At) (P : Params) : Obj := (Obj.mk (Value.type "type") none (Data.cls (ClassData.mk A.k2.c2 [(Value.type "object")] [(.ref 127), (Value.type "object")] 126 A.k2.c2 Bool.true [] [] Bool.false none Bool.false)) (List.toArray [none, none, (some (.str A.k2.c2 273)), (some (.str A.k2.c2 281)), (some (Value.builtin "object.__new__")), (some (.bool Bool.true))]))
noncomputable def o_169 (p : Program) (A : At) (P : Params) : Obj := (Obj.mk (Value.type "getset_descriptor") none (Data.fields (List.toArray [(.str A.k0.c8 344), (.ref 127), (Value.builtin "function.__dict__"), (Value.builtin "function.__dict__#set")])) (List.toArray []))
noncomputable def o_170 (p : Program) (A : At) (P : Params) : Obj := (Obj.mk (Value.type "getset_descriptor") none (Data.fields (List.toArray [(.str A.k0.c9 346), (.ref 127), (Value.builtin "ExceptionGroup.__weakref__"), Value.none])) (List.toArray []))
noncomputable def o_171 (p : Program) (A : At) (P : Params) : Obj := (Obj.mk (Value.type "super") none (Data.fields (List.toArray [(.ref 127), (.ref 127), (.ref 127)])) (List.toArray []))
noncomputable def o_172 (p : Program) (A : At) (P : Params) : Obj := (Obj.mk (Value.type "builtin_function_or_method") none (Data.fields (List.toArray [(Value.builtin "object.__init_subclass__"), (.ref 127)])) (List.toArray []))
noncomputable def o_173 (p : Program) (A : At) (P : Params) : Obj := (Obj.mk (Value.type "dict") none (Data.dict (List.toArray [(E (PyData.keyHash P A.k1.c0) (.str A.k1.c0 165) (.str A.k0.c0 187)), (E (PyData.keyHash P A.k0.c10) (.str A.k0.c10 166) Value.none), (E (PyData.keyHash P A.k1.c1) (.str A.k1.c1 167) Value.none), (E (PyData.keyHash P A.k1.c2) (.str A.k1.c2 168) (Value.builtin "__main__.__loader__#opaque")), (E (PyData.keyHash P A.k1.c3) (.str A.k1.c3 169) Value.none), (E (PyData.keyHash P A.k1.c4) (.str A.k1.c4 170) (.ref 6)), (E (PyData.keyHash P A.k1.c5) (.str A.k1.c5 171) (.ref 4)), (E (PyData.keyHash P A.k1.c6) (.str A.k1.c6 173) (.str A.k1.c7 172)), (E (PyData.keyHash P A.k1.c8) (.str A.k1.c8 174) Value.none), (E (PyData.keyHash P A.k1.c9) (.str A.k1.c9 217) (.ref 31)), (E (PyData.keyHash P A.k1.c10) (.str A.k1.c10 223) (.ref 37)), (E (PyData.keyHash P A.k1.c11) (.str A.k1.c11 229) (.ref 40)), (E (PyData.keyHash P A.k2.c0) (.str A.k2.c0 235) (.ref 43)), (E (PyData.keyHash P A.k2.c1) (.str A.k2.c1 241) (.ref 46)), (E (PyData.keyHash P A.k0.c11) (.str A.k0.c11 272) (.ref 64)), (E (PyData.keyHash P A.k2.c2) (.str A.k2.c2 350) (.ref 127)), (E (PyData.keyHash P A.k3.c10) (.str A.k3.c10 381) (.ref 148))]) 17) (List.toArray []))
noncomputable def o_174 (p : Program) (A : At) (P : Params) : Obj := (Obj.mk Value.none none (Data.fields (List.toArray [(.int 2 0), (.int 0 0), (.ref 20), (.int 10 0), (.int 0 0), (.ref 53), (.int 15 0), (.int 0 0), (.ref 74), (.int 45 0), (.int 0 0), (.ref 137)])) (List.toArray []))
noncomputable def o_175 (p : Program) (A : At) (P : Params) : Obj := (Obj.mk (Value.type "tuple") none (Data.seq (List.toArray []) 0) (List.toArray []))
noncomputable def o_176 (p : Program) (A : At) (P : Params) : Obj := (Obj.mk (Value.type "builtin_function_or_method") none (Data.fields (List.toArray [(Value.builtin "type.__prepare__"), (Value.type "type")])) (List.toArray []))
noncomputable def o_177 (p : Program) (A : At) (P : Params) : Obj := (Obj.mk (Value.type "dict") none (Data.dict (List.toArray [(E (PyData.keyHash P A.k0.c5) (.str A.k0.c5 358) (.str A.k0.c0 187)), (E (PyData.keyHash P A.k2.c3) (.str A.k2.c3 360) (.str A.k3.c10 359)), (E (PyData.keyHash P A.k0.c6) (.str A.k0.c6 362) (.int 45 361)), (E (PyData.keyHash P A.k0.c1) (.str A.k0.c1 371) (.ref 145)), (E (PyData.keyHash P A.k0.c7) (.str A.k0.c7 374) (.ref 146))]) 5) (List.toArray []))
noncomputable def o_178 (p : Program) (A : At) (P : Params) : Obj := (Obj.mk (Value.type "tuple") none (Data.seq (List.toArray []) 0) (List.toArray []))
noncomputable def o_179 (p : Program) (A : At) (P : Params) : Obj := (Obj.mk Value.none none (Data.fields (List.toArray [(.int 47 0), (.int 4 0), (.ref 144)])) (List.toArray []))
noncomputable def o_180 (p : Program) (A : At) (P : Params) : Obj := (Obj.mk (Value.type "code") none (Data.fields (List.toArray [(.str A.k3.c10 353), (.str A.k3.c10 354), (.str A.k1.c7 355), (.int 45 0), (.int 0 0), (.int 0 0), (.int 0 0), (.int 0 0), (.ref 135), (.bool Bool.false), (.int 181 0), (.ref 136), Value.none, Value.none, Value.none, Value.none, (.int 356 0), (.int 45 0), (.str A.k1.c7 357)])) (List.toArray []))
noncomputable def o_181 (p : Program) (A : At) (P : Params) : Obj := (Obj.mk (Value.type "frame") none Data.plain (List.toArray [(some (.ref 137)), (some (.ref 3)), (some (.ref 134)), none, (some (.str A.k0.c0 187)), none, (some (.ref 0))]))
noncomputable def o_182 (p : Program) (A : At) (P : Params) : Obj := (Obj.mk (Value.type "tuple") none (Data.seq (List.toArray []) 0) (List.toArray []))
noncomputable def o_183 (p : Program) (A : At) (P : Params) : Obj := (Obj.mk Value.none none (Data.fields (List.toArray [])) (List.toArray []))
noncomputable def o_184 (p : Program) (A : At) (P : Params) : Obj := (Obj.mk (Value.type "tuple") none (Data.seq (List.toArray [(.str A.k2.c10 366), (.str A.k3.c11 367), (.str A.k4.c0 368)]) 0) (List.toArray []))
noncomputable def o_185 (p : Program) (A : At) (P : Params) : Obj := (Obj.mk (Value.type "tuple") none (Data.seq (List.toArray []) 0) (List.toArray []))
noncomputable def o_186 (p : Program) (A : At) (P : Params) : Obj := (Obj.mk Value.none none (Data.func (FuncData.mk A.k0.c1 A.k4.c1 (fnP (sbA (stA p 8) 0)) (.stmts (fnB (sbA (stA p 8) 0))) (fnS (sbA (stA p 8) 0)) 0 [] Value.none Value.none Value.none Value.none none Value.none Value.none 0)) (List.toArray []))
noncomputable def o_187 (p : Program) (A : At) (P : Params) : Obj := (Obj.mk (Value.type "code") none (Data.fields (List.toArray [(.str A.k0.c1 363), (.str A.k4.c1 364), (.str A.k1.c7 365), (.int 47 0), (.int 3 0), (.int 0 0), (.int 0 0), (.int 3 0), (.ref 139), (.bool Bool.true), (.int 181 0), (.ref 140), Value.none, (.ref 141), (.ref 142), (.ref 143), (.int 369 0), (.int 47 0), (.str A.k1.c7 370)])) (List.toArray []))
noncomputable def o_188 (p : Program) (A : At) (P : Params) : Obj := (Obj.mk (Value.type "function") none (Data.func (FuncData.mk A.k0.c1 A.k4.c1 (fnP (sbA (stA p 8) 0)) (.stmts (fnB (sbA (stA p 8) 0))) (fnS (sbA (stA p 8) 0)) 3 [] Value.none Value.none Value.none (.str A.k0.c0 187) none (.ref 144) Value.none 0)) (List.toArray []))
noncomputable def o_189 (p : Program) (A : At) (P : Params) : Obj := (Obj.mk (Value.type "tuple") none (Data.seq (List.toArray [(.str A.k3.c11 372), (.str A.k4.c0 373)]) 0) (List.toArray []))
noncomputable def o_190 (p : Program) (A : At) (P : Params) : Obj := (Obj.mk (Value.type "dict") none (Data.dict (List.toArray [(E (PyData.keyHash P A.k0.c5) (.str A.k0.c5 358) (.str A.k0.c0 187)), (E (PyData.keyHash P A.k0.c6) (.str A.k0.c6 362) (.int 45 361)), (E (PyData.keyHash P A.k0.c1) (.str A.k0.c1 371) (.ref 145)), (E (PyData.keyHash P A.k0.c7) (.str A.k0.c7 374) (.ref 146)), (E (PyData.keyHash P A.k0.c8) (.str A.k0.c8 376) (.ref 149)), (E (PyData.keyHash P A.k0.c9) (.str A.k0.c9 378) (.ref 150)), (E (PyData.keyHash P A.k0.c10) (.str A.k0.c10 379) Value.none)]) 4) (List.toArray []))
noncomputable def o_191 (p : Program) (A : At) (P : Params) : Obj := (Obj.mk (Value.type "type") none (Data.cls (ClassData.mk A.k3.c10 [(Value.type "object")] [(.ref 148), (Value.type "object")] 147 A.k3.c10 Bool.true [] [] Bool.false none Bool.false)) (List.toArray [none, none, (some (.str A.k3.c10 351)), (some (.str A.k3.c10 359)), (some (Value.builtin "object.__new__")), (some (.bool Bool.true))]))
noncomputable def o_192 (p : Program) (A : At) (P : Params) : Obj := (Obj.mk (Value.type "getset_descriptor") none (Data.fields (List.toArray [(.str A.k0.c8 375), (.ref 148), (Value.builtin "function.__dict__"), (Value.builtin "function.__dict__#set")])) (List.toArray []))
noncomputable def o_193 (p : Program) (A : At) (P : Params) : Obj := (Obj.mk (Value.type "getset_descriptor") none (Data.fields (List.toArray [(.str A.k0.c9 377), (.ref 148), (Value.builtin "ExceptionGroup.__weakref__"), Value.none])) (List.toArray []))
noncomputable def o_194 (p : Program) (A : At) (P : Params) : Obj := (Obj.mk (Value.type "super") none (Data.fields (List.toArray [(.ref 148), (.ref 148), (.ref 148)])) (List.toArray []))
noncomputable def o_195 (p : Program) (A : At) (P : Params) : Obj := (Obj.mk (Value.type "builtin_function_or_method") none (Data.fields (List.toArray [(Value.builtin "object.__init_subclass__"), (.ref 148)])) (List.toArray []))
noncomputable def o_196 (p : Program) (A : At) (P : Params) : Obj := (Obj.mk (Value.type "dict") none (Data.dict (List.toArray [(E (PyData.keyHash P A.k1.c0) (.str A.k1.c0 165) (.str A.k0.c0 187)), (E (PyData.keyHash P A.k0.c10) (.str A.k0.c10 166) Value.none), (E (PyData.keyHash P A.k1.c1) (.str A.k1.c1 167) Value.none), (E (PyData.keyHash P A.k1.c2) (.str A.k1.c2 168) (Value.builtin "__main__.__loader__#opaque")), (E (PyData.keyHash P A.k1.c3) (.str A.k1.c3 169) Value.none), (E (PyData.keyHash P A.k1.c4) (.str A.k1.c4 170) (.ref 6)), (E (PyData.keyHash P A.k1.c5) (.str A.k1.c5 171) (.ref 4)), (E (PyData.keyHash P A.k1.c6) (.str A.k1.c6 173) (.str A.k1.c7 172)), (E (PyData.keyHash P A.k1.c8) (.str A.k1.c8 174) Value.none), (E (PyData.keyHash P A.k1.c9) (.str A.k1.c9 217) (.ref 31)), (E (PyData.keyHash P A.k1.c10) (.str A.k1.c10 223) (.ref 37)), (E (PyData.keyHash P A.k1.c11) (.str A.k1.c11 229) (.ref 40)), (E (PyData.keyHash P A.k2.c0) (.str A.k2.c0 235) (.ref 43)), (E (PyData.keyHash P A.k2.c1) (.str A.k2.c1 241) (.ref 46)), (E (PyData.keyHash P A.k0.c11) (.str A.k0.c11 272) (.ref 64)), (E (PyData.keyHash P A.k2.c2) (.str A.k2.c2 350) (.ref 127)), (E (PyData.keyHash P A.k3.c10) (.str A.k3.c10 381) (.ref 148)), (E (PyData.keyHash P A.k4.c2) (.str A.k4.c2 410) (.ref 169))]) 18) (List.toArray []))
noncomputable def o_197 (p : Program) (A : At) (P : Params) : Obj := (Obj.mk Value.none none (Data.fields (List.toArray [(.int 2 0), (.int 0 0), (.ref 20), (.int 10 0), (.int 0 0), (.ref 53), (.int 15 0), (.int 0 0), (.ref 74), (.int 45 0), (.int 0 0), (.ref 137), (.int 50 0), (.int 0 0), (.ref 158)])) (List.toArray []))
noncomputable def o_198 (p : Program) (A : At) (P : Params) : Obj := (Obj.mk (Value.type "tuple") none (Data.seq (List.toArray []) 0) (List.toArray []))
noncomputable def o_199 (p : Program) (A : At) (P : Params) : Obj := (Obj.mk (Value.type "builtin_function_or_method") none (Data.fields (List.toArray [(Value.builtin "type.__prepare__"), (Value.type "type")])) (List.toArray []))
noncomputable def o_200 (p : Program) (A : At) (P : Params) : Obj := (Obj.mk (Value.type "dict") none (Data.dict (List.toArray [(E (PyData.keyHash P A.k0.c5) (.str A.k0.c5 389) (.str A.k0.c0 187)), (E (PyData.keyHash P A.k2.c3) (.str A.k2.c3 391) (.str A.k4.c2 390)), (E (PyData.keyHash P A.k0.c6) (.str A.k0.c6 393) (.int 50 392)), (E (PyData.keyHash P A.k0.c1) (.str A.k0.c1 401) (.ref 166)), (E (PyData.keyHash P A.k0.c7) (.str A.k0.c7 403) (.ref 167))]) 5) (List.toArray []))
noncomputable def o_201 (p : Program) (A : At) (P : Params) : Obj := (Obj.mk (Value.type "tuple") none (Data.seq (List.toArray []) 0) (List.toArray []))
noncomputable def o_202 (p : Program) (A : At) (P : Params) : Obj := (Obj.mk Value.none none (Data.fields (List.toArray [(.int 52 0), (.int 4 0), (.ref 165)])) (List.toArray []))
noncomputable def o_203 (p : Program) (A : At) (P : Params) : Obj := (Obj.mk (Value.type "code") none (Data.fields (List.toArray [(.str A.k4.c2 384), (.str A.k4.c2 385), (.str A.k1.c7 386), (.int 50 0), (.int 0 0), (.int 0 0), (.int 0 0), (.int 0 0), (.ref 156), (.bool Bool.false), (.int 181 0), (.ref 157), Value.none, Value.none, Value.none, Value.none, (.int 387 0), (.int 50 0), (.str A.k1.c7 388)])) (List.toArray []))
noncomputable def o_204 (p : Program) (A : At) (P : Params) : Obj := (Obj.mk (Value.type "frame") none Data.plain (List.toArray [(some (.ref 158)), (some (.ref 3)), (some (.ref 155)), none, (some (.str A.k0.c0 187)), none, (some (.ref 0))]))
noncomputable def o_205 (p : Program) (A : At) (P : Params) : Obj := (Obj.mk (Value.type "tuple") none (Data.seq (List.toArray []) 0) (List.toArray []))
noncomputable def o_206 (p : Program) (A : At) (P : Params) : Obj := (Obj.mk Value.none none (Data.fields (List.toArray [])) (List.toArray []))
noncomputable def o_207 (p : Program) (A : At) (P : Params) : Obj := (Obj.mk (Value.type "tuple") none (Data.seq (List.toArray [(.str A.k2.c10 397), (.str A.k4.c3 398)]) 0) (List.toArray []))
noncomputable def o_208 (p : Program) (A : At) (P : Params) : Obj := (Obj.mk (Value.type "tuple") none (Data.seq (List.toArray []) 0) (List.toArray []))
noncomputable def o_209 (p : Program) (A : At) (P : Params) : Obj := (Obj.mk Value.none none (Data.func (FuncData.mk A.k0.c1 A.k4.c4 (fnP (sbA (stA p 9) 0)) (.stmts (fnB (sbA (stA p 9) 0))) (fnS (sbA (stA p 9) 0)) 0 [] Value.none Value.none Value.none Value.none none Value.none Value.none 0)) (List.toArray []))
noncomputable def o_210 (p : Program) (A : At) (P : Params) : Obj := (Obj.mk (Value.type "code") none (Data.fields (List.toArray [(.str A.k0.c1 394), (.str A.k4.c4 395), (.str A.k1.c7 396), (.int 52 0), (.int 2 0), (.int 0 0), (.int 0 0), (.int 3 0), (.ref 160), (.bool Bool.true), (.int 181 0), (.ref 161), Value.none, (.ref 162), (.ref 163), (.ref 164), (.int 399 0), (.int 52 0), (.str A.k1.c7 400)])) (List.toArray []))
noncomputable def o_211 (p : Program) (A : At) (P : Params) : Obj := (Obj.mk (Value.type "function") none (Data.func (FuncData.mk A.k0.c1 A.k4.c4 (fnP (sbA (stA p 9) 0)) (.stmts (fnB (sbA (stA p 9) 0))) (fnS (sbA (stA p 9) 0)) 3 [] Value.none Value.none Value.none (.str A.k0.c0 187) none (.ref 165) Value.none 0)) (List.toArray []))
noncomputable def o_212 (p : Program) (A : At) (P : Params) : Obj := (Obj.mk (Value.type "tuple") none (Data.seq (List.toArray [(.str A.k4.c3 402)]) 0) (List.toArray []))
noncomputable def o_213 (p : Program) (A : At) (P : Params) : Obj := (Obj.mk (Value.type "dict") none (Data.dict (List.toArray [(E (PyData.keyHash P A.k0.c5) (.str A.k0.c5 389) (.str A.k0.c0 187)), (E (PyData.keyHash P A.k0.c6) (.str A.k0.c6 393) (.int 50 392)), (E (PyData.keyHash P A.k0.c1) (.str A.k0.c1 401) (.ref 166)), (E (PyData.keyHash P A.k0.c7) (.str A.k0.c7 403) (.ref 167)), (E (PyData.keyHash P A.k0.c8) (.str A.k0.c8 405) (.ref 170)), (E (PyData.keyHash P A.k0.c9) (.str A.k0.c9 407) (.ref 171)), (E (PyData.keyHash P A.k0.c10) (.str A.k0.c10 408) Value.none)]) 4) (List.toArray []))
noncomputable def o_214 (p : Program) (A : At) (P : Params) : Obj := (Obj.mk (Value.type "type") none (Data.cls (ClassData.mk A.k4.c2 [(Value.type "object")] [(.ref 169), (Value.type "object")] 168 A.k4.c2 Bool.true [] [] Bool.false none Bool.false)) (List.toArray [none, none, (some (.str A.k4.c2 382)), (some (.str A.k4.c2 390)), (some (Value.builtin "object.__new__")), (some (.bool Bool.true))]))
noncomputable def o_215 (p : Program) (A : At) (P : Params) : Obj := (Obj.mk (Value.type "getset_descriptor") none (Data.fields (List.toArray [(.str A.k0.c8 404), (.ref 169), (Value.builtin "function.__dict__"), (Value.builtin "function.__dict__#set")])) (List.toArray []))
noncomputable def o_216 (p : Program) (A : At) (P : Params) : Obj := (Obj.mk (Value.type "getset_descriptor") none (Data.fields (List.toArray [(.str A.k0.c9 406), (.ref 169), (Value.builtin "ExceptionGroup.__weakref__"), Value.none])) (List.toArray []))
noncomputable def o_217 (p : Program) (A : At) (P : Params) : Obj := (Obj.mk (Value.type "super") none (Data.fields (List.toArray [(.ref 169), (.ref 169), (.ref 169)])) (List.toArray []))
noncomputable def o_218 (p : Program) (A : At) (P : Params) : Obj := (Obj.mk (Value.type "builtin_function_or_method") none (Data.fields (List.toArray [(Value.builtin "object.__init_subclass__"), (.ref 169)])) (List.toArray []))
noncomputable def o_219 (p : Program) (A : At) (P : Params) : Obj := (Obj.mk (Value.type "dict") none (Data.dict (List.toArray [(E (PyData.keyHash P A.k1.c0) (.str A.k1.c0 165) (.str A.k0.c0 187)), (E (PyData.keyHash P A.k0.c10) (.str A.k0.c10 166) Value.none), (E (PyData.keyHash P A.k1.c1) (.str A.k1.c1 167) Value.none), (E (PyData.keyHash P A.k1.c2) (.str A.k1.c2 168) (Value.builtin "__main__.__loader__#opaque")), (E (PyData.keyHash P A.k1.c3) (.str A.k1.c3 169) Value.none), (E (PyData.keyHash P A.k1.c4) (.str A.k1.c4 170) (.ref 6)), (E (PyData.keyHash P A.k1.c5) (.str A.k1.c5 171) (.ref 4)), (E (PyData.keyHash P A.k1.c6) (.str A.k1.c6 173) (.str A.k1.c7 172)), (E (PyData.keyHash P A.k1.c8) (.str A.k1.c8 174) Value.none), (E (PyData.keyHash P A.k1.c9) (.str A.k1.c9 217) (.ref 31)), (E (PyData.keyHash P A.k1.c10) (.str A.k1.c10 223) (.ref 37)), (E (PyData.keyHash P A.k1.c11) (.str A.k1.c11 229) (.ref 40)), (E (PyData.keyHash P A.k2.c0) (.str A.k2.c0 235) (.ref 43)), (E (PyData.keyHash P A.k2.c1) (.str A.k2.c1 241) (.ref 46)), (E (PyData.keyHash P A.k0.c11) (.str A.k0.c11 272) (.ref 64)), (E (PyData.keyHash P A.k2.c2) (.str A.k2.c2 350) (.ref 127)), (E (PyData.keyHash P A.k3.c10) (.str A.k3.c10 381) (.ref 148)), (E (PyData.keyHash P A.k4.c2) (.str A.k4.c2 410) (.ref 169)), (E (PyData.keyHash P A.k4.c5) (.str A.k4.c5 439) (.ref 190))]) 19) (List.toArray []))
noncomputable def o_220 (p : Program) (A : At) (P : Params) : Obj := (Obj.mk Value.none none (Data.fields (List.toArray [(.int 2 0), (.int 0 0), (.ref 20), (.int 10 0), (.int 0 0), (.ref 53), (.int 15 0), (.int 0 0), (.ref 74), (.int 45 0), (.int 0 0), (.ref 137), (.int 50 0), (.int 0 0), (.ref 158), (.int 54 0), (.int 0 0), (.ref 179)])) (List.toArray []))
noncomputable def o_221 (p : Program) (A : At) (P : Params) : Obj := (Obj.mk (Value.type "tuple") none (Data.seq (List.toArray []) 0) (List.toArray []))
noncomputable def o_222 (p : Program) (A : At) (P : Params) : Obj := (Obj.mk (Value.type "builtin_function_or_method") none (Data.fields (List.toArray [(Value.builtin "type.__prepare__"), (Value.type "type")])) (List.toArray []))
noncomputable def o_223 (p : Program) (A : At) (P : Params) : Obj := (Obj.mk (Value.type "dict") none (Data.dict (List.toArray [(E (PyData.keyHash P A.k0.c5) (.str A.k0.c5 418) (.str A.k0.c0 187)), (E (PyData.keyHash P A.k2.c3) (.str A.k2.c3 420) (.str A.k4.c5 419)), (E (PyData.keyHash P A.k0.c6) (.str A.k0.c6 422) (.int 54 421)), (E (PyData.keyHash P A.k0.c1) (.str A.k0.c1 430) (.ref 187)), (E (PyData.keyHash P A.k0.c7) (.str A.k0.c7 432) (.ref 188))]) 5) (List.toArray []))
noncomputable def o_224 (p : Program) (A : At) (P : Params) : Obj := (Obj.mk (Value.type "tuple") none (Data.seq (List.toArray []) 0) (List.toArray []))
noncomputable def o_225 (p : Program) (A : At) (P : Params) : Obj := (Obj.mk Value.none none (Data.fields (List.toArray [(.int 56 0), (.int 4 0), (.ref 186)])) (List.toArray []))
noncomputable def o_226 (p : Program) (A : At) (P : Params) : Obj := (Obj.mk (Value.type "code") none (Data.fields (List.toArray [(.str A.k4.c5 413), (.str A.k4.c5 414), (.str A.k1.c7 415), (.int 54 0), (.int 0 0), (.int 0 0), (.int 0 0), (.int 0 0), (.ref 177), (.bool Bool.false), (.int 181 0), (.ref 178), Value.none, Value.none, Value.none, Value.none, (.int 416 0), (.int 54 0), (.str A.k1.c7 417)])) (List.toArray []))
noncomputable def o_227 (p : Program) (A : At) (P : Params) : Obj := (Obj.mk (Value.type "frame") none Data.plain (List.toArray [(some (.ref 179)), (some (.ref 3)), (some (.ref 176)), none, (some (.str A.k0.c0 187)), none, (some (.ref 0))]))
noncomputable def o_228 (p : Program) (A : At) (P : Params) : Obj := (Obj.mk (Value.type "tuple") none (Data.seq (List.toArray []) 0) (List.toArray []))
noncomputable def o_229 (p : Program) (A : At) (P : Params) : Obj := (Obj.mk Value.none none (Data.fields (List.toArray [])) (List.toArray []))
noncomputable def o_230 (p : Program) (A : At) (P : Params) : Obj := (Obj.mk (Value.type "tuple") none (Data.seq (List.toArray [(.str A.k2.c10 426), (.str A.k4.c6 427)]) 0) (List.toArray []))
noncomputable def o_231 (p : Program) (A : At) (P : Params) : Obj := (Obj.mk (Value.type "tuple") none (Data.seq (List.toArray []) 0) (List.toArray []))
noncomputable def o_232 (p : Program) (A : At) (P : Params) : Obj := (Obj.mk Value.none none (Data.func (FuncData.mk A.k0.c1 A.k4.c7 (fnP (sbA (stA p 10) 0)) (.stmts (fnB (sbA (stA p 10) 0))) (fnS (sbA (stA p 10) 0)) 0 [] Value.none Value.none Value.none Value.none none Value.none Value.none 0)) (List.toArray []))
noncomputable def o_233 (p : Program) (A : At) (P : Params) : Obj := (Obj.mk (Value.type "code") none (Data.fields (List.toArray [(.str A.k0.c1 423), (.str A.k4.c7 424), (.str A.k1.c7 425), (.int 56 0), (.int 2 0), (.int 0 0), (.int 0 0), (.int 3 0), (.ref 181), (.bool Bool.true), (.int 181 0), (.ref 182), Value.none, (.ref 183), (.ref 184), (.ref 185), (.int 428 0), (.int 56 0), (.str A.k1.c7 429)])) (List.toArray []))
noncomputable def o_234 (p : Program) (A : At) (P : Params) : Obj := (Obj.mk (Value.type "function") none (Data.func (FuncData.mk A.k0.c1 A.k4.c7 (fnP (sbA (stA p 10) 0)) (.stmts (fnB (sbA (stA p 10) 0))) (fnS (sbA (stA p 10) 0)) 3 [] Value.none Value.none Value.none (.str A.k0.c0 187) none (.ref 186) Value.none 0)) (List.toArray []))
noncomputable def o_235 (p : Program) (A : At) (P : Params) : Obj := (Obj.mk (Value.type "tuple") none (Data.seq (List.toArray [(.str A.k4.c6 431)]) 0) (List.toArray []))
noncomputable def o_236 (p : Program) (A : At) (P : Params) : Obj := (Obj.mk (Value.type "dict") none (Data.dict (List.toArray [(E (PyData.keyHash P A.k0.c5) (.str A.k0.c5 418) (.str A.k0.c0 187)), (E (PyData.keyHash P A.k0.c6) (.str A.k0.c6 422) (.int 54 421)), (E (PyData.keyHash P A.k0.c1) (.str A.k0.c1 430) (.ref 187)), (E (PyData.keyHash P A.k0.c7) (.str A.k0.c7 432) (.ref 188)), (E (PyData.keyHash P A.k0.c8) (.str A.k0.c8 434) (.ref 191)), (E (PyData.keyHash P A.k0.c9) (.str A.k0.c9 436) (.ref 192)), (E (PyData.keyHash P A.k0.c10) (.str A.k0.c10 437) Value.none)]) 4) (List.toArray []))
noncomputable def o_237 (p : Program) (A : At) (P : Params) : Obj := (Obj.mk (Value.type "type") none (Data.cls (ClassData.mk A.k4.c5 [(Value.type "object")] [(.ref 190), (Value.type "object")] 189 A.k4.c5 Bool.true [] [] Bool.false none Bool.false)) (List.toArray [none, none, (some (.str A.k4.c5 411)), (some (.str A.k4.c5 419)), (some (Value.builtin "object.__new__")), (some (.bool Bool.true))]))
noncomputable def o_238 (p : Program) (A : At) (P : Params) : Obj := (Obj.mk (Value.type "getset_descriptor") none (Data.fields (List.toArray [(.str A.k0.c8 433), (.ref 190), (Value.builtin "function.__dict__"), (Value.builtin "function.__dict__#set")])) (List.toArray []))
noncomputable def o_239 (p : Program) (A : At) (P : Params) : Obj := (Obj.mk (Value.type "getset_descriptor") none (Data.fields (List.toArray [(.str A.k0.c9 435), (.ref 190), (Value.builtin "ExceptionGroup.__weakref__"), Value.none])) (List.toArray []))
noncomputable def o_240 (p : Program) (A : At) (P : Params) : Obj := (Obj.mk (Value.type "super") none (Data.fields (List.toArray [(.ref 190), (.ref 190), (.ref 190)])) (List.toArray []))
noncomputable def o_241 (p : Program) (A : At) (P : Params) : Obj := (Obj.mk (Value.type "builtin_function_or_method") none (Data.fields (List.toArray [(Value.builtin "object.__init_subclass__"), (.ref 190)])) (List.toArray []))
noncomputable def o_242 (p : Program) (A : At) (P : Params) : Obj := (Obj.mk (Value.type "dict") none (Data.dict (List.toArray [(E (PyData.keyHash P A.k1.c0) (.str A.k1.c0 165) (.str A.k0.c0 187)), (E (PyData.keyHash P A.k0.c10) (.str A.k0.c10 166) Value.none), (E (PyData.keyHash P A.k1.c1) (.str A.k1.c1 167) Value.none), (E (PyData.keyHash P A.k1.c2) (.str A.k1.c2 168) (Value.builtin "__main__.__loader__#opaque")), (E (PyData.keyHash P A.k1.c3) (.str A.k1.c3 169) Value.none), (E (PyData.keyHash P A.k1.c4) (.str A.k1.c4 170) (.ref 6)), (E (PyData.keyHash P A.k1.c5) (.str A.k1.c5 171) (.ref 4)), (E (PyData.keyHash P A.k1.c6) (.str A.k1.c6 173) (.str A.k1.c7 172)), (E (PyData.keyHash P A.k1.c8) (.str A.k1.c8 174) Value.none), (E (PyData.keyHash P A.k1.c9) (.str A.k1.c9 217) (.ref 31)), (E (PyData.keyHash P A.k1.c10) (.str A.k1.c10 223) (.ref 37)), (E (PyData.keyHash P A.k1.c11) (.str A.k1.c11 229) (.ref 40)), (E (PyData.keyHash P A.k2.c0) (.str A.k2.c0 235) (.ref 43)), (E (PyData.keyHash P A.k2.c1) (.str A.k2.c1 241) (.ref 46)), (E (PyData.keyHash P A.k0.c11) (.str A.k0.c11 272) (.ref 64)), (E (PyData.keyHash P A.k2.c2) (.str A.k2.c2 350) (.ref 127)), (E (PyData.keyHash P A.k3.c10) (.str A.k3.c10 381) (.ref 148)), (E (PyData.keyHash P A.k4.c2) (.str A.k4.c2 410) (.ref 169)), (E (PyData.keyHash P A.k4.c5) (.str A.k4.c5 439) (.ref 190)), (E (PyData.keyHash P A.k4.c8) (.str A.k4.c8 468) (.ref 211))]) 20) (List.toArray []))
noncomputable def o_243 (p : Program) (A : At) (P : Params) : Obj := (Obj.mk Value.none none (Data.fields (List.toArray [(.int 2 0), (.int 0 0), (.ref 20), (.int 10 0), (.int 0 0), (.ref 53), (.int 15 0), (.int 0 0), (.ref 74), (.int 45 0), (.int 0 0), (.ref 137), (.int 50 0), (.int 0 0), (.ref 158), (.int 54 0), (.int 0 0), (.ref 179), (.int 58 0), (.int 0 0), (.ref 200)])) (List.toArray []))
noncomputable def o_244 (p : Program) (A : At) (P : Params) : Obj := (Obj.mk (Value.type "tuple") none (Data.seq (List.toArray []) 0) (List.toArray []))
noncomputable def o_245 (p : Program) (A : At) (P : Params) : Obj := (Obj.mk (Value.type "builtin_function_or_method") none (Data.fields (List.toArray [(Value.builtin "type.__prepare__"), (Value.type "type")])) (List.toArray []))
noncomputable def o_246 (p : Program) (A : At) (P : Params) : Obj := (Obj.mk (Value.type "dict") none (Data.dict (List.toArray [(E (PyData.keyHash P A.k0.c5) (.str A.k0.c5 447) (.str A.k0.c0 187)), (E (PyData.keyHash P A.k2.c3) (.str A.k2.c3 449) (.str A.k4.c8 448)), (E (PyData.keyHash P A.k0.c6) (.str A.k0.c6 451) (.int 58 450)), (E (PyData.keyHash P A.k0.c1) (.str A.k0.c1 459) (.ref 208)), (E (PyData.keyHash P A.k0.c7) (.str A.k0.c7 461) (.ref 209))]) 5) (List.toArray []))
noncomputable def o_247 (p : Program) (A : At) (P : Params) : Obj := (Obj.mk (Value.type "tuple") none (Data.seq (List.toArray []) 0) (List.toArray []))
noncomputable def o_248 (p : Program) (A : At) (P : Params) : Obj := (Obj.mk Value.none none (Data.fields (List.toArray [(.int 60 0), (.int 4 0), (.ref 207)])) (List.toArray []))
noncomputable def o_249 (p : Program) (A : At) (P : Params) : Obj := (Obj.mk (Value.type "code") none (Data.fields (List.toArray [(.str A.k4.c8 442), (.str A.k4.c8 443), (.str A.k1.c7 444), (.int 58 0), (.int 0 0), (.int 0 0), (.int 0 0), (.int 0 0), (.ref 198), (.bool Bool.false), (.int 181 0), (.ref 199), Value.none, Value.none, Value.none, Value.none, (.int 445 0), (.int 58 0), (.str A.k1.c7 446)])) (List.toArray []))
noncomputable def o_250 (p : Program) (A : At) (P : Params) : Obj := (Obj.mk (Value.type "frame") none Data.plain (List.toArray [(some (.ref 200)), (some (.ref 3)), (some (.ref 197)), none, (some (.str A.k0.c0 187)), none, (some (.ref 0))]))
noncomputable def o_251 (p : Program) (A : At) (P : Params) : Obj := (Obj.mk (Value.type "tuple") none (Data.seq (List.toArray []) 0) (List.toArray []))
noncomputable def o_252 (p : Program) (A : At) (P : Params) : Obj := (Obj.mk Value.none none (Data.fields (List.toArray [])) (List.toArray []))
noncomputable def o_253 (p : Program) (A : At) (P : Params) : Obj := (Obj.mk (Value.type "tuple") none (Data.seq (List.toArray [(.str A.k2.c10 455), (.str A.k4.c9 456)]) 0) (List.toArray []))
noncomputable def o_254 (p : Program) (A : At) (P : Params) : Obj := (Obj.mk (Value.type "tuple") none (Data.seq (List.toArray []) 0) (List.toArray []))
noncomputable def o_255 (p : Program) (A : At) (P : Params) : Obj := (Obj.mk Value.none none (Data.func (FuncData.mk A.k0.c1 A.k4.c10 (fnP (sbA (stA p 11) 0)) (.stmts (fnB (sbA (stA p 11) 0))) (fnS (sbA (stA p 11) 0)) 0 [] Value.none Value.none Value.none Value.none none Value.none Value.none 0)) (List.toArray []))
noncomputable def o_256 (p : Program) (A : At) (P : Params) : Obj := (Obj.mk (Value.type "code") none (Data.fields (List.toArray [(.str A.k0.c1 452), (.str A.k4.c10 453), (.str A.k1.c7 454), (.int 60 0), (.int 2 0), (.int 0 0), (.int 0 0), (.int 3 0), (.ref 202), (.bool Bool.true), (.int 181 0), (.ref 203), Value.none, (.ref 204), (.ref 205), (.ref 206), (.int 457 0), (.int 60 0), (.str A.k1.c7 458)])) (List.toArray []))
noncomputable def o_257 (p : Program) (A : At) (P : Params) : Obj := (Obj.mk (Value.type "function") none (Data.func (FuncData.mk A.k0.c1 A.k4.c10 (fnP (sbA (stA p 11) 0)) (.stmts (fnB (sbA (stA p 11) 0))) (fnS (sbA (stA p 11) 0)) 3 [] Value.none Value.none Value.none (.str A.k0.c0 187) none (.ref 207) Value.none 0)) (List.toArray []))
noncomputable def o_258 (p : Program) (A : At) (P : Params) : Obj := (Obj.mk (Value.type "tuple") none (Data.seq (List.toArray [(.str A.k4.c9 460)]) 0) (List.toArray []))
noncomputable def o_259 (p : Program) (A : At) (P : Params) : Obj := (Obj.mk (Value.type "dict") none (Data.dict (List.toArray [(E (PyData.keyHash P A.k0.c5) (.str A.k0.c5 447) (.str A.k0.c0 187)), (E (PyData.keyHash P A.k0.c6) (.str A.k0.c6 451) (.int 58 450)), (E (PyData.keyHash P A.k0.c1) (.str A.k0.c1 459) (.ref 208)), (E (PyData.keyHash P A.k0.c7) (.str A.k0.c7 461) (.ref 209)), (E (PyData.keyHash P A.k0.c8) (.str A.k0.c8 463) (.ref 212)), (E (PyData.keyHash P A.k0.c9) (.str A.k0.c9 465) (.ref 213)), (E (PyData.keyHash P A.k0.c10) (.str A.k0.c10 466) Value.none)]) 4) (List.toArray []))
noncomputable def o_260 (p : Program) (A : At) (P : Params) : Obj := (Obj.mk (Value.type "type") none (Data.cls (ClassData.mk A.k4.c8 [(Value.type "object")] [(.ref 211), (Value.type "object")] 210 A.k4.c8 Bool.true [] [] Bool.false none Bool.false)) (List.toArray [none, none, (some (.str A.k4.c8 440)), (some (.str A.k4.c8 448)), (some (Value.builtin "object.__new__")), (some (.bool Bool.true))]))
noncomputable def o_261 (p : Program) (A : At) (P : Params) : Obj := (Obj.mk (Value.type "getset_descriptor") none (Data.fields (List.toArray [(.str A.k0.c8 462), (.ref 211), (Value.builtin "function.__dict__"), (Value.builtin "function.__dict__#set")])) (List.toArray []))
noncomputable def o_262 (p : Program) (A : At) (P : Params) : Obj := (Obj.mk (Value.type "getset_descriptor") none (Data.fields (List.toArray [(.str A.k0.c9 464), (.ref 211), (Value.builtin "ExceptionGroup.__weakref__"), Value.none])) (List.toArray []))
noncomputable def o_263 (p : Program) (A : At) (P : Params) : Obj := (Obj.mk (Value.type "super") none (Data.fields (List.toArray [(.ref 211), (.ref 211), (.ref 211)])) (List.toArray []))
noncomputable def o_264 (p : Program) (A : At) (P : Params) : Obj := (Obj.mk (Value.type "builtin_function_or_method") none (Data.fields (List.toArray [(Value.builtin "object.__init_subclass__"), (.ref 211)])) (List.toArray []))
noncomputable def o_265 (p : Program) (A : At) (P : Params) : Obj := (Obj.mk (Value.type "dict") none (Data.dict (List.toArray [(E (PyData.keyHash P A.k1.c0) (.str A.k1.c0 165) (.str A.k0.c0 187)), (E (PyData.keyHash P A.k0.c10) (.str A.k0.c10 166) Value.none), (E (PyData.keyHash P A.k1.c1) (.str A.k1.c1 167) Value.none), (E (PyData.keyHash P A.k1.c2) (.str A.k1.c2 168) (Value.builtin "__main__.__loader__#opaque")), (E (PyData.keyHash P A.k1.c3) (.str A.k1.c3 169) Value.none), (E (PyData.keyHash P A.k1.c4) (.str A.k1.c4 170) (.ref 6)), (E (PyData.keyHash P A.k1.c5) (.str A.k1.c5 171) (.ref 4)), (E (PyData.keyHash P A.k1.c6) (.str A.k1.c6 173) (.str A.k1.c7 172)), (E (PyData.keyHash P A.k1.c8) (.str A.k1.c8 174) Value.none), (E (PyData.keyHash P A.k1.c9) (.str A.k1.c9 217) (.ref 31)), (E (PyData.keyHash P A.k1.c10) (.str A.k1.c10 223) (.ref 37)), (E (PyData.keyHash P A.k1.c11) (.str A.k1.c11 229) (.ref 40)), (E (PyData.keyHash P A.k2.c0) (.str A.k2.c0 235) (.ref 43)), (E (PyData.keyHash P A.k2.c1) (.str A.k2.c1 241) (.ref 46)), (E (PyData.keyHash P A.k0.c11) (.str A.k0.c11 272) (.ref 64)), (E (PyData.keyHash P A.k2.c2) (.str A.k2.c2 350) (.ref 127)), (E (PyData.keyHash P A.k3.c10) (.str A.k3.c10 381) (.ref 148)), (E (PyData.keyHash P A.k4.c2) (.str A.k4.c2 410) (.ref 169)), (E (PyData.keyHash P A.k4.c5) (.str A.k4.c5 439) (.ref 190)), (E (PyData.keyHash P A.k4.c8) (.str A.k4.c8 468) (.ref 211)), (E (PyData.keyHash P A.k4.c11) (.str A.k4.c11 497) (.ref 232))]) 21) (List.toArray []))
noncomputable def o_266 (p : Program) (A : At) (P : Params) : Obj := (Obj.mk Value.none none (Data.fields (List.toArray [(.int 2 0), (.int 0 0), (.ref 20), (.int 10 0), (.int 0 0), (.ref 53), (.int 15 0), (.int 0 0), (.ref 74), (.int 45 0), (.int 0 0), (.ref 137), (.int 50 0), (.int 0 0), (.ref 158), (.int 54 0), (.int 0 0), (.ref 179), (.int 58 0), (.int 0 0), (.ref 200), (.int 62 0), (.int 0 0), (.ref 221)])) (List.toArray []))
noncomputable def o_267 (p : Program) (A : At) (P : Params) : Obj := (Obj.mk (Value.type "tuple") none (Data.seq (List.toArray []) 0) (List.toArray []))
noncomputable def o_268 (p : Program) (A : At) (P : Params) : Obj := (Obj.mk (Value.type "builtin_function_or_method") none (Data.fields (List.toArray [(Value.builtin "type.__prepare__"), (Value.type "type")])) (List.toArray []))
noncomputable def o_269 (p : Program) (A : At) (P : Params) : Obj := (Obj.mk (Value.type "dict") none (Data.dict (List.toArray [(E (PyData.keyHash P A.k0.c5) (.str A.k0.c5 476) (.str A.k0.c0 187)), (E (PyData.keyHash P A.k2.c3) (.str A.k2.c3 478) (.str A.k4.c11 477)), (E (PyData.keyHash P A.k0.c6) (.str A.k0.c6 480) (.int 62 479)), (E (PyData.keyHash P A.k0.c1) (.str A.k0.c1 488) (.ref 229)), (E (PyData.keyHash P A.k0.c7) (.str A.k0.c7 490) (.ref 230))]) 5) (List.toArray []))
noncomputable def o_270 (p : Program) (A : At) (P : Params) : Obj := (Obj.mk (Value.type "tuple") none (Data.seq (List.toArray []) 0) (List.toArray []))
noncomputable def o_271 (p : Program) (A : At) (P : Params) : Obj := (Obj.mk Value.none none (Data.fields (List.toArray [(.int 64 0), (.int 4 0), (.ref 228)])) (List.toArray []))
noncomputable def o_272 (p : Program) (A : At) (P : Params) : Obj := (Obj.mk (Value.type "code") none (Data.fields (List.toArray [(.str A.k4.c11 471), (.str A.k4.c11 472), (.str A.k1.c7 473), (.int 62 0), (.int 0 0), (.int 0 0), (.int 0 0), (.int 0 0), (.ref 219), (.bool Bool.false), (.int 181 0), (.ref 220), Value.none, Value.none, Value.none, Value.none, (.int 474 0), (.int 62 0), (.str A.k1.c7 475)])) (List.toArray []))
noncomputable def o_273 (p : Program) (A : At) (P : Params) : Obj := (Obj.mk (Value.type "frame") none Data.plain (List.toArray [(some (.ref 221)), (some (.ref 3)), (some (.ref 218)), none, (some (.str A.k0.c0 187)), none, (some (.ref 0))]))
noncomputable def o_274 (p : Program) (A : At) (P : Params) : Obj := (Obj.mk (Value.type "tuple") none (Data.seq (List.toArray []) 0) (List.toArray []))
noncomputable def o_275 (p : Program) (A : At) (P : Params) : Obj := (Obj.mk Value.none none (Data.fields (List.toArray [])) (List.toArray []))
noncomputable def o_276 (p : Program) (A : At) (P : Params) : Obj := (Obj.mk (Value.type "tuple") none (Data.seq (List.toArray [(.str A.k2.c10 484), (.str A.k5.c0 485)]) 0) (List.toArray []))
noncomputable def o_277 (p : Program) (A : At) (P : Params) : Obj := (Obj.mk (Value.type "tuple") none (Data.seq (List.toArray []) 0) (List.toArray []))
noncomputable def o_278 (p : Program) (A : At) (P : Params) : Obj := (Obj.mk Value.none none (Data.func (FuncData.mk A.k0.c1 A.k5.c1 (fnP (sbA (stA p 12) 0)) (.stmts (fnB (sbA (stA p 12) 0))) (fnS (sbA (stA p 12) 0)) 0 [] Value.none Value.none Value.none Value.none none Value.none Value.none 0)) (List.toArray []))
noncomputable def o_279 (p : Program) (A : At) (P : Params) : Obj := (Obj.mk (Value.type "code") none (Data.fields (List.toArray [(.str A.k0.c1 481), (.str A.k5.c1 482), (.str A.k1.c7 483), (.int 64 0), (.int 2 0), (.int 0 0), (.int 0 0), (.int 3 0), (.ref 223), (.bool Bool.true), (.int 181 0), (.ref 224), Value.none, (.ref 225), (.ref 226), (.ref 227), (.int 486 0), (.int 64 0), (.str A.k1.c7 487)])) (List.toArray []))
noncomputable def o_280 (p : Program) (A : At) (P : Params) : Obj := (Obj.mk (Value.type "function") none (Data.func (FuncData.mk A.k0.c1 A.k5.c1 (fnP (sbA (stA p 12) 0)) (.stmts (fnB (sbA (stA p 12) 0))) (fnS (sbA (stA p 12) 0)) 3 [] Value.none Value.none Value.none (.str A.k0.c0 187) none (.ref 228) Value.none 0)) (List.toArray []))
noncomputable def o_281 (p : Program) (A : At) (P : Params) : Obj := (Obj.mk (Value.type "tuple") none (Data.seq (List.toArray [(.str A.k5.c0 489)]) 0) (List.toArray []))
noncomputable def o_282 (p : Program) (A : At) (P : Params) : Obj := (Obj.mk (Value.type "dict") none (Data.dict (List.toArray [(E (PyData.keyHash P A.k0.c5) (.str A.k0.c5 476) (.str A.k0.c0 187)), (E (PyData.keyHash P A.k0.c6) (.str A.k0.c6 480) (.int 62 479)), (E (PyData.keyHash P A.k0.c1) (.str A.k0.c1 488) (.ref 229)), (E (PyData.keyHash P A.k0.c7) (.str A.k0.c7 490) (.ref 230)), (E (PyData.keyHash P A.k0.c8) (.str A.k0.c8 492) (.ref 233)), (E (PyData.keyHash P A.k0.c9) (.str A.k0.c9 494) (.ref 234)), (E (PyData.keyHash P A.k0.c10) (.str A.k0.c10 495) Value.none)]) 4) (List.toArray []))
noncomputable def o_283 (p : Program) (A : At) (P : Params) : Obj := (Obj.mk (Value.type "type") none (Data.cls (ClassData.mk A.k4.c11 [(Value.type "object")] [(.ref 232), (Value.type "object")] 231 A.k4.c11 Bool.true [] [] Bool.false none Bool.false)) (List.toArray [none, none, (some (.str A.k4.c11 469)), (some (.str A.k4.c11 477)), (some (Value.builtin "object.__new__")), (some (.bool Bool.true))]))
noncomputable def o_284 (p : Program) (A : At) (P : Params) : Obj := (Obj.mk (Value.type "getset_descriptor") none (Data.fields (List.toArray [(.str A.k0.c8 491), (.ref 232), (Value.builtin "function.__dict__"), (Value.builtin "function.__dict__#set")])) (List.toArray []))
noncomputable def o_285 (p : Program) (A : At) (P : Params) : Obj := (Obj.mk (Value.type "getset_descriptor") none (Data.fields (List.toArray [(.str A.k0.c9 493), (.ref 232), (Value.builtin "ExceptionGroup.__weakref__"), Value.none])) (List.toArray []))
noncomputable def o_286 (p : Program) (A : At) (P : Params) : Obj := (Obj.mk (Value.type "super") none (Data.fields (List.toArray [(.ref 232), (.ref 232), (.ref 232)])) (List.toArray []))
noncomputable def o_287 (p : Program) (A : At) (P : Params) : Obj := (Obj.mk (Value.type "builtin_function_or_method") none (Data.fields (List.toArray [(Value.builtin "object.__init_subclass__"), (.ref 232)])) (List.toArray []))
noncomputable def o_288 (p : Program) (A : At) (P : Params) : Obj := (Obj.mk (Value.type "dict") none (Data.dict (List.toArray [(E (PyData.keyHash P A.k1.c0) (.str A.k1.c0 165) (.str A.k0.c0 187)), (E (PyData.keyHash P A.k0.c10) (.str A.k0.c10 166) Value.none), (E (PyData.keyHash P A.k1.c1) (.str A.k1.c1 167) Value.none), (E (PyData.keyHash P A.k1.c2) (.str A.k1.c2 168) (Value.builtin "__main__.__loader__#opaque")), (E (PyData.keyHash P A.k1.c3) (.str A.k1.c3 169) Value.none), (E (PyData.keyHash P A.k1.c4) (.str A.k1.c4 170) (.ref 6)), (E (PyData.keyHash P A.k1.c5) (.str A.k1.c5 171) (.ref 4)), (E (PyData.keyHash P A.k1.c6) (.str A.k1.c6 173) (.str A.k1.c7 172)), (E (PyData.keyHash P A.k1.c8) (.str A.k1.c8 174) Value.none), (E (PyData.keyHash P A.k1.c9) (.str A.k1.c9 217) (.ref 31)), (E (PyData.keyHash P A.k1.c10) (.str A.k1.c10 223) (.ref 37)), (E (PyData.keyHash P A.k1.c11) (.str A.k1.c11 229) (.ref 40)), (E (PyData.keyHash P A.k2.c0) (.str A.k2.c0 235) (.ref 43)), (E (PyData.keyHash P A.k2.c1) (.str A.k2.c1 241) (.ref 46)), (E (PyData.keyHash P A.k0.c11) (.str A.k0.c11 272) (.ref 64)), (E (PyData.keyHash P A.k2.c2) (.str A.k2.c2 350) (.ref 127)), (E (PyData.keyHash P A.k3.c10) (.str A.k3.c10 381) (.ref 148)), (E (PyData.keyHash P A.k4.c2) (.str A.k4.c2 410) (.ref 169)), (E (PyData.keyHash P A.k4.c5) (.str A.k4.c5 439) (.ref 190)), (E (PyData.keyHash P A.k4.c8) (.str A.k4.c8 468) (.ref 211)), (E (PyData.keyHash P A.k4.c11) (.str A.k4.c11 497) (.ref 232)), (E (PyData.keyHash P A.k5.c2) (.str A.k5.c2 528) (.ref 253))]) 22) (List.toArray []))
noncomputable def o_289 (p : Program) (A : At) (P : Params) : Obj := (Obj.mk Value.none none (Data.fields (List.toArray [(.int 2 0), (.int 0 0), (.ref 20), (.int 10 0), (.int 0 0), (.ref 53), (.int 15 0), (.int 0 0), (.ref 74), (.int 45 0), (.int 0 0), (.ref 137), (.int 50 0), (.int 0 0), (.ref 158), (.int 54 0), (.int 0 0), (.ref 179), (.int 58 0), (.int 0 0), (.ref 200), (.int 62 0), (.int 0 0), (.ref 221), (.int 66 0), (.int 0 0), (.ref 242)])) (List.toArray []))
noncomputable def o_290 (p : Program) (A : At) (P : Params) : Obj := (Obj.mk (Value.type "tuple") none (Data.seq (List.toArray []) 0) (List.toArray []))
noncomputable def o_291 (p : Program) (A : At) (P : Params) : Obj := (Obj.mk (Value.type "builtin_function_or_method") none (Data.fields (List.toArray [(Value.builtin "type.__prepare__"), (Value.type "type")])) (List.toArray []))
noncomputable def o_292 (p : Program) (A : At) (P : Params) : Obj := (Obj.mk (Value.type "dict") none (Data.dict (List.toArray [(E (PyData.keyHash P A.k0.c5) (.str A.k0.c5 505) (.str A.k0.c0 187)), (E (PyData.keyHash P A.k2.c3) (.str A.k2.c3 507) (.str A.k5.c2 506)), (E (PyData.keyHash P A.k0.c6) (.str A.k0.c6 509) (.int 66 508)), (E (PyData.keyHash P A.k0.c1) (.str A.k0.c1 518) (.ref 250)), (E (PyData.keyHash P A.k0.c7) (.str A.k0.c7 521) (.ref 251))]) 5) (List.toArray []))
noncomputable def o_293 (p : Program) (A : At) (P : Params) : Obj := (Obj.mk (Value.type "tuple") none (Data.seq (List.toArray []) 0) (List.toArray []))
noncomputable def o_294 (p : Program) (A : At) (P : Params) : Obj := (Obj.mk Value.none none (Data.fields (List.toArray [(.int 68 0), (.int 4 0), (.ref 249)])) (List.toArray []))
noncomputable def o_295 (p : Program) (A : At) (P : Params) : Obj := (Obj.mk (Value.type "code") none (Data.fields (List.toArray [(.str A.k5.c2 500), (.str A.k5.c2 501), (.str A.k1.c7 502), (.int 66 0), (.int 0 0), (.int 0 0), (.int 0 0), (.int 0 0), (.ref 240), (.bool Bool.false), (.int 181 0), (.ref 241), Value.none, Value.none, Value.none, Value.none, (.int 503 0), (.int 66 0), (.str A.k1.c7 504)])) (List.toArray []))
noncomputable def o_296 (p : Program) (A : At) (P : Params) : Obj := (Obj.mk (Value.type "frame") none Data.plain (List.toArray [(some (.ref 242)), (some (.ref 3)), (some (.ref 239)), none, (some (.str A.k0.c0 187)), none, (some (.ref 0))]))
noncomputable def o_297 (p : Program) (A : At) (P : Params) : Obj := (Obj.mk (Value.type "tuple") none (Data.seq (List.toArray []) 0) (List.toArray []))
noncomputable def o_298 (p : Program) (A : At) (P : Params) : Obj := (Obj.mk Value.none none (Data.fields (List.toArray [])) (List.toArray []))
noncomputable def o_299 (p : Program) (A : At) (P : Params) : Obj := (Obj.mk (Value.type "tuple") none (Data.seq (List.toArray [(.str A.k2.c10 513), (.str A.k5.c3 514), (.str A.k5.c0 515)]) 0) (List.toArray []))
noncomputable def o_300 (p : Program) (A : At) (P : Params) : Obj := (Obj.mk (Value.type "tuple") none (Data.seq (List.toArray []) 0) (List.toArray []))
noncomputable def o_301 (p : Program) (A : At) (P : Params) : Obj := (Obj.mk Value.none none (Data.func (FuncData.mk A.k0.c1 A.k5.c4 (fnP (sbA (stA p 13) 0)) (.stmts (fnB (sbA (stA p 13) 0))) (fnS (sbA (stA p 13) 0)) 0 [] Value.none Value.none Value.none Value.none none Value.none Value.none 0)) (List.toArray []))
noncomputable def o_302 (p : Program) (A : At) (P : Params) : Obj := (Obj.mk (Value.type "code") none (Data.fields (List.toArray [(.str A.k0.c1 510), (.str A.k5.c4 511), (.str A.k1.c7 512), (.int 68 0), (.int 3 0), (.int 0 0), (.int 0 0), (.int 3 0), (.ref 244), (.bool Bool.true), (.int 181 0), (.ref 245), Value.none, (.ref 246), (.ref 247), (.ref 248), (.int 516 0), (.int 68 0), (.str A.k1.c7 517)])) (List.toArray []))
noncomputable def o_303 (p : Program) (A : At) (P : Params) : Obj := (Obj.mk (Value.type "function") none (Data.func (FuncData.mk A.k0.c1 A.k5.c4 (fnP (sbA (stA p 13) 0)) (.stmts (fnB (sbA (stA p 13) 0))) (fnS (sbA (stA p 13) 0)) 3 [] Value.none Value.none Value.none (.str A.k0.c0 187) none (.ref 249) Value.none 0)) (List.toArray []))
noncomputable def o_304 (p : Program) (A : At) (P : Params) : Obj := (Obj.mk (Value.type "tuple") none (Data.seq (List.toArray [(.str A.k5.c0 519), (.str A.k5.c3 520)]) 0) (List.toArray []))
noncomputable def o_305 (p : Program) (A : At) (P : Params) : Obj := (Obj.mk (Value.type "dict") none (Data.dict (List.toArray [(E (PyData.keyHash P A.k0.c5) (.str A.k0.c5 505) (.str A.k0.c0 187)), (E (PyData.keyHash P A.k0.c6) (.str A.k0.c6 509) (.int 66 508)), (E (PyData.keyHash P A.k0.c1) (.str A.k0.c1 518) (.ref 250)), (E (PyData.keyHash P A.k0.c7) (.str A.k0.c7 521) (.ref 251)), (E (PyData.keyHash P A.k0.c8) (.str A.k0.c8 523) (.ref 254)), (E (PyData.keyHash P A.k0.c9) (.str A.k0.c9 525) (.ref 255)), (E (PyData.keyHash P A.k0.c10) (.str A.k0.c10 526) Value.none)]) 4) (List.toArray []))
noncomputable def o_306 (p : Program) (A : At) (P : Params) : Obj := (Obj.mk (Value.type "type") none (Data.cls (ClassData.mk A.k5.c2 [(Value.type "object")] [(.ref 253), (Value.type "object")] 252 A.k5.c2 Bool.true [] [] Bool.false none Bool.false)) (List.toArray [none, none, (some (.str A.k5.c2 498)), (some (.str A.k5.c2 506)), (some (Value.builtin "object.__new__")), (some (.bool Bool.true))]))
noncomputable def o_307 (p : Program) (A : At) (P : Params) : Obj := (Obj.mk (Value.type "getset_descriptor") none (Data.fields (List.toArray [(.str A.k0.c8 522), (.ref 253), (Value.builtin "function.__dict__"), (Value.builtin "function.__dict__#set")])) (List.toArray []))
noncomputable def o_308 (p : Program) (A : At) (P : Params) : Obj := (Obj.mk (Value.type "getset_descriptor") none (Data.fields (List.toArray [(.str A.k0.c9 524), (.ref 253), (Value.builtin "ExceptionGroup.__weakref__"), Value.none])) (List.toArray []))
noncomputable def o_309 (p : Program) (A : At) (P : Params) : Obj := (Obj.mk (Value.type "super") none (Data.fields (List.toArray [(.ref 253), (.ref 253), (.ref 253)])) (List.toArray []))
noncomputable def o_310 (p : Program) (A : At) (P : Params) : Obj := (Obj.mk (Value.type "builtin_function_or_method") none (Data.fields (List.toArray [(Value.builtin "object.__init_subclass__"), (.ref 253)])) (List.toArray []))
noncomputable def o_311 (p : Program) (A : At) (P : Params) : Obj := (Obj.mk (Value.type "dict") none (Data.dict (List.toArray [(E (PyData.keyHash P A.k1.c0) (.str A.k1.c0 165) (.str A.k0.c0 187)), (E (PyData.keyHash P A.k0.c10) (.str A.k0.c10 166) Value.none), (E (PyData.keyHash P A.k1.c1) (.str A.k1.c1 167) Value.none), (E (PyData.keyHash P A.k1.c2) (.str A.k1.c2 168) (Value.builtin "__main__.__loader__#opaque")), (E (PyData.keyHash P A.k1.c3) (.str A.k1.c3 169) Value.none), (E (PyData.keyHash P A.k1.c4) (.str A.k1.c4 170) (.ref 6)), (E (PyData.keyHash P A.k1.c5) (.str A.k1.c5 171) (.ref 4)), (E (PyData.keyHash P A.k1.c6) (.str A.k1.c6 173) (.str A.k1.c7 172)), (E (PyData.keyHash P A.k1.c8) (.str A.k1.c8 174) Value.none), (E (PyData.keyHash P A.k1.c9) (.str A.k1.c9 217) (.ref 31)), (E (PyData.keyHash P A.k1.c10) (.str A.k1.c10 223) (.ref 37)), (E (PyData.keyHash P A.k1.c11) (.str A.k1.c11 229) (.ref 40)), (E (PyData.keyHash P A.k2.c0) (.str A.k2.c0 235) (.ref 43)), (E (PyData.keyHash P A.k2.c1) (.str A.k2.c1 241) (.ref 46)), (E (PyData.keyHash P A.k0.c11) (.str A.k0.c11 272) (.ref 64)), (E (PyData.keyHash P A.k2.c2) (.str A.k2.c2 350) (.ref 127)), (E (PyData.keyHash P A.k3.c10) (.str A.k3.c10 381) (.ref 148)), (E (PyData.keyHash P A.k4.c2) (.str A.k4.c2 410) (.ref 169)), (E (PyData.keyHash P A.k4.c5) (.str A.k4.c5 439) (.ref 190)), (E (PyData.keyHash P A.k4.c8) (.str A.k4.c8 468) (.ref 211)), (E (PyData.keyHash P A.k4.c11) (.str A.k4.c11 497) (.ref 232)), (E (PyData.keyHash P A.k5.c2) (.str A.k5.c2 528) (.ref 253)), (E (PyData.keyHash P A.k5.c5) (.str A.k5.c5 557) (.ref 274))]) 23) (List.toArray []))
noncomputable def o_312 (p : Program) (A : At) (P : Params) : Obj := (Obj.mk Value.none none (Data.fields (List.toArray [(.int 2 0), (.int 0 0), (.ref 20), (.int 10 0), (.int 0 0), (.ref 53), (.int 15 0), (.int 0 0), (.ref 74), (.int 45 0), (.int 0 0), (.ref 137), (.int 50 0), (.int 0 0), (.ref 158), (.int 54 0), (.int 0 0), (.ref 179), (.int 58 0), (.int 0 0), (.ref 200), (.int 62 0), (.int 0 0), (.ref 221), (.int 66 0), (.int 0 0), (.ref 242), (.int 71 0), (.int 0 0), (.ref 263)])) (List.toArray []))
noncomputable def o_313 (p : Program) (A : At) (P : Params) : Obj := (Obj.mk (Value.type "tuple") none (Data.seq (List.toArray []) 0) (List.toArray []))
noncomputable def o_314 (p : Program) (A : At) (P : Params) : Obj := (Obj.mk (Value.type "builtin_function_or_method") none (Data.fields (List.toArray [(Value.builtin "type.__prepare__"), (Value.type "type")])) (List.toArray []))
noncomputable def o_315 (p : Program) (A : At) (P : Params) : Obj := (Obj.mk (Value.type "dict") none (Data.dict (List.toArray [(E (PyData.keyHash P A.k0.c5) (.str A.k0.c5 536) (.str A.k0.c0 187)), (E (PyData.keyHash P A.k2.c3) (.str A.k2.c3 538) (.str A.k5.c5 537)), (E (PyData.keyHash P A.k0.c6) (.str A.k0.c6 540) (.int 71 539)), (E (PyData.keyHash P A.k0.c1) (.str A.k0.c1 548) (.ref 271)), (E (PyData.keyHash P A.k0.c7) (.str A.k0.c7 550) (.ref 272))]) 5) (List.toArray []))
noncomputable def o_316 (p : Program) (A : At) (P : Params) : Obj := (Obj.mk (Value.type "tuple") none (Data.seq (List.toArray []) 0) (List.toArray []))
noncomputable def o_317 (p : Program) (A : At) (P : Params) : Obj := (Obj.mk Value.none none (Data.fields (List.toArray [(.int 73 0), (.int 4 0), (.ref 270)])) (List.toArray []))
noncomputable def o_318 (p : Program) (A : At) (P : Params) : Obj := (Obj.mk (Value.type "code") none (Data.fields (List.toArray [(.str A.k5.c5 531), (.str A.k5.c5 532), (.str A.k1.c7 533), (.int 71 0), (.int 0 0), (.int 0 0), (.int 0 0), (.int 0 0), (.ref 261), (.bool Bool.false), (.int 181 0), (.ref 262), Value.none, Value.none, Value.none, Value.none, (.int 534 0), (.int 71 0), (.str A.k1.c7 535)])) (List.toArray []))
noncomputable def o_319 (p : Program) (A : At) (P : Params) : Obj := (Obj.mk (Value.type "frame") none Data.plain (List.toArray [(some (.ref 263)), (some (.ref 3)), (some (.ref 260)), none, (some (.str A.k0.c0 187)), none, (some (.ref 0))]))
noncomputable def o_320 (p : Program) (A : At) (P : Params) : Obj := (Obj.mk (Value.type "tuple") none (Data.seq (List.toArray []) 0) (List.toArray []))
noncomputable def o_321 (p : Program) (A : At) (P : Params) : Obj := (Obj.mk Value.none none (Data.fields (List.toArray [])) (List.toArray []))
noncomputable def o_322 (p : Program) (A : At) (P : Params) : Obj := (Obj.mk (Value.type "tuple") none (Data.seq (List.toArray [(.str A.k2.c10 544), (.str A.k0.c3 545)]) 0) (List.toArray []))
noncomputable def o_323 (p : Program) (A : At) (P : Params) : Obj := (Obj.mk (Value.type "tuple") none (Data.seq (List.toArray []) 0) (List.toArray []))
noncomputable def o_324 (p : Program) (A : At) (P : Params) : Obj := (Obj.mk Value.none none (Data.func (FuncData.mk A.k0.c1 A.k5.c6 (fnP (sbA (stA p 14) 0)) (.stmts (fnB (sbA (stA p 14) 0))) (fnS (sbA (stA p 14) 0)) 0 [] Value.none Value.none Value.none Value.none none Value.none Value.none 0)) (List.toArray []))
noncomputable def o_325 (p : Program) (A : At) (P : Params) : Obj := (Obj.mk (Value.type "code") none (Data.fields (List.toArray [(.str A.k0.c1 541), (.str A.k5.c6 542), (.str A.k1.c7 543), (.int 73 0), (.int 2 0), (.int 0 0), (.int 0 0), (.int 3 0), (.ref 265), (.bool Bool.true), (.int 181 0), (.ref 266), Value.none, (.ref 267), (.ref 268), (.ref 269), (.int 546 0), (.int 73 0), (.str A.k1.c7 547)])) (List.toArray []))
noncomputable def o_326 (p : Program) (A : At) (P : Params) : Obj := (Obj.mk (Value.type "function") none (Data.func (FuncData.mk A.k0.c1 A.k5.c6 (fnP (sbA (stA p 14) 0)) (.stmts (fnB (sbA (stA p 14) 0))) (fnS (sbA (stA p 14) 0)) 3 [] Value.none Value.none Value.none (.str A.k0.c0 187) none (.ref 270) Value.none 0)) (List.toArray []))
noncomputable def o_327 (p : Program) (A : At) (P : Params) : Obj := (Obj.mk (Value.type "tuple") none (Data.seq (List.toArray [(.str A.k0.c3 549)]) 0) (List.toArray []))
noncomputable def o_328 (p : Program) (A : At) (P : Params) : Obj := (Obj.mk (Value.type "dict") none (Data.dict (List.toArray [(E (PyData.keyHash P A.k0.c5) (.str A.k0.c5 536) (.str A.k0.c0 187)), (E (PyData.keyHash P A.k0.c6) (.str A.k0.c6 540) (.int 71 539)), (E (PyData.keyHash P A.k0.c1) (.str A.k0.c1 548) (.ref 271)), (E (PyData.keyHash P A.k0.c7) (.str A.k0.c7 550) (.ref 272)), (E (PyData.keyHash P A.k0.c8) (.str A.k0.c8 552) (.ref 275)), (E (PyData.keyHash P A.k0.c9) (.str A.k0.c9 554) (.ref 276)), (E (PyData.keyHash P A.k0.c10) (.str A.k0.c10 555) Value.none)]) 4) (List.toArray []))
noncomputable def o_329 (p : Program) (A : At) (P : Params) : Obj := (Obj.mk (Value.type "type") none (Data.cls (ClassData.mk A.k5.c5 [(Value.type "object")] [(.ref 274), (Value.type "object")] 273 A.k5.c5 Bool.true [] [] Bool.false none Bool.false)) (List.toArray [none, none, (some (.str A.k5.c5 529)), (some (.str A.k5.c5 537)), (some (Value.builtin "object.__new__")), (some (.bool Bool.true))]))
noncomputable def o_330 (p : Program) (A : At) (P : Params) : Obj := (Obj.mk (Value.type "getset_descriptor") none (Data.fields (List.toArray [(.str A.k0.c8 551), (.ref 274), (Value.builtin "function.__dict__"), (Value.builtin "function.__dict__#set")])) (List.toArray []))
noncomputable def o_331 (p : Program) (A : At) (P : Params) : Obj := (Obj.mk (Value.type "getset_descriptor") none (Data.fields (List.toArray [(.str A.k0.c9 553), (.ref 274), (Value.builtin "ExceptionGroup.__weakref__"), Value.none])) (List.toArray []))
noncomputable def o_332 (p : Program) (A : At) (P : Params) : Obj := (Obj.mk (Value.type "super") none (Data.fields (List.toArray [(.ref 274), (.ref 274), (.ref 274)])) (List.toArray []))
noncomputable def o_333 (p : Program) (A : At) (P : Params) : Obj := (Obj.mk (Value.type "builtin_function_or_method") none (Data.fields (List.toArray [(Value.builtin "object.__init_subclass__"), (.ref 274)])) (List.toArray []))
noncomputable def o_334 (p : Program) (A : At) (P : Params) : Obj := (Obj.mk (Value.type "dict") none (Data.dict (List.toArray [(E (PyData.keyHash P A.k1.c0) (.str A.k1.c0 165) (.str A.k0.c0 187)), (E (PyData.keyHash P A.k0.c10) (.str A.k0.c10 166) Value.none), (E (PyData.keyHash P A.k1.c1) (.str A.k1.c1 167) Value.none), (E (PyData.keyHash P A.k1.c2) (.str A.k1.c2 168) (Value.builtin "__main__.__loader__#opaque")), (E (PyData.keyHash P A.k1.c3) (.str A.k1.c3 169) Value.none), (E (PyData.keyHash P A.k1.c4) (.str A.k1.c4 170) (.ref 6)), (E (PyData.keyHash P A.k1.c5) (.str A.k1.c5 171) (.ref 4)), (E (PyData.keyHash P A.k1.c6) (.str A.k1.c6 173) (.str A.k1.c7 172)), (E (PyData.keyHash P A.k1.c8) (.str A.k1.c8 174) Value.none), (E (PyData.keyHash P A.k1.c9) (.str A.k1.c9 217) (.ref 31)), (E (PyData.keyHash P A.k1.c10) (.str A.k1.c10 223) (.ref 37)), (E (PyData.keyHash P A.k1.c11) (.str A.k1.c11 229) (.ref 40)), (E (PyData.keyHash P A.k2.c0) (.str A.k2.c0 235) (.ref 43)), (E (PyData.keyHash P A.k2.c1) (.str A.k2.c1 241) (.ref 46)), (E (PyData.keyHash P A.k0.c11) (.str A.k0.c11 272) (.ref 64)), (E (PyData.keyHash P A.k2.c2) (.str A.k2.c2 350) (.ref 127)), (E (PyData.keyHash P A.k3.c10) (.str A.k3.c10 381) (.ref 148)), (E (PyData.keyHash P A.k4.c2) (.str A.k4.c2 410) (.ref 169)), (E (PyData.keyHash P A.k4.c5) (.str A.k4.c5 439) (.ref 190)), (E (PyData.keyHash P A.k4.c8) (.str A.k4.c8 468) (.ref 211)), (E (PyData.keyHash P A.k4.c11) (.str A.k4.c11 497) (.ref 232)), (E (PyData.keyHash P A.k5.c2) (.str A.k5.c2 528) (.ref 253)), (E (PyData.keyHash P A.k5.c5) (.str A.k5.c5 557) (.ref 274)), (E (PyData.keyHash P A.k5.c7) (.str A.k5.c7 586) (.ref 295))]) 24) (List.toArray []))
noncomputable def o_335 (p : Program) (A : At) (P : Params) : Obj := (Obj.mk Value.none none (Data.fields (List.toArray [(.int 2 0), (.int 0 0), (.ref 20), (.int 10 0), (.int 0 0), (.ref 53), (.int 15 0), (.int 0 0), (.ref 74), (.int 45 0), (.int 0 0), (.ref 137), (.int 50 0), (.int 0 0), (.ref 158), (.int 54 0), (.int 0 0), (.ref 179), (.int 58 0), (.int 0 0), (.ref 200), (.int 62 0), (.int 0 0), (.ref 221), (.int 66 0), (.int 0 0), (.ref 242), (.int 71 0), (.int 0 0), (.ref 263), (.int 75 0), (.int 0 0), (.ref 284)])) (List.toArray []))
noncomputable def o_336 (p : Program) (A : At) (P : Params) : Obj := (Obj.mk (Value.type "tuple") none (Data.seq (List.toArray []) 0) (List.toArray []))
noncomputable def o_337 (p : Program) (A : At) (P : Params) : Obj := (Obj.mk (Value.type "builtin_function_or_method") none (Data.fields (List.toArray [(Value.builtin "type.__prepare__"), (Value.type "type")])) (List.toArray []))
noncomputable def o_338 (p : Program) (A : At) (P : Params) : Obj := (Obj.mk (Value.type "dict") none (Data.dict (List.toArray [(E (PyData.keyHash P A.k0.c5) (.str A.k0.c5 565) (.str A.k0.c0 187)), (E (PyData.keyHash P A.k2.c3) (.str A.k2.c3 567) (.str A.k5.c7 566)), (E (PyData.keyHash P A.k0.c6) (.str A.k0.c6 569) (.int 75 568)), (E (PyData.keyHash P A.k0.c1) (.str A.k0.c1 577) (.ref 292)), (E (PyData.keyHash P A.k0.c7) (.str A.k0.c7 579) (.ref 293))]) 5) (List.toArray []))
noncomputable def o_339 (p : Program) (A : At) (P : Params) : Obj := (Obj.mk (Value.type "tuple") none (Data.seq (List.toArray []) 0) (List.toArray []))
noncomputable def o_340 (p : Program) (A : At) (P : Params) : Obj := (Obj.mk Value.none none (Data.fields (List.toArray [(.int 77 0), (.int 4 0), (.ref 291)])) (List.toArray []))
noncomputable def o_341 (p : Program) (A : At) (P : Params) : Obj := (Obj.mk (Value.type "code") none (Data.fields (List.toArray [(.str A.k5.c7 560), (.str A.k5.c7 561), (.str A.k1.c7 562), (.int 75 0), (.int 0 0), (.int 0 0), (.int 0 0), (.int 0 0), (.ref 282), (.bool Bool.false), (.int 181 0), (.ref 283), Value.none, Value.none, Value.none, Value.none, (.int 563 0), (.int 75 0), (.str A.k1.c7 564)])) (List.toArray []))
noncomputable def o_342 (p : Program) (A : At) (P : Params) : Obj := (Obj.mk (Value.type "frame") none Data.plain (List.toArray [(some (.ref 284)), (some (.ref 3)), (some (.ref 281)), none, (some (.str A.k0.c0 187)), none, (some (.ref 0))]))
noncomputable def o_343 (p : Program) (A : At) (P : Params) : Obj := (Obj.mk (Value.type "tuple") none (Data.seq (List.toArray []) 0) (List.toArray []))
noncomputable def o_344 (p : Program) (A : At) (P : Params) : Obj := (Obj.mk Value.none none (Data.fields (List.toArray [])) (List.toArray []))
noncomputable def o_345 (p : Program) (A : At) (P : Params) : Obj := (Obj.mk (Value.type "tuple") none (Data.seq (List.toArray [(.str A.k2.c10 573), (.str A.k5.c8 574)]) 0) (List.toArray []))
noncomputable def o_346 (p : Program) (A : At) (P : Params) : Obj := (Obj.mk (Value.type "tuple") none (Data.seq (List.toArray []) 0) (List.toArray []))
noncomputable def o_347 (p : Program) (A : At) (P : Params) : Obj := (Obj.mk Value.none none (Data.func (FuncData.mk A.k0.c1 A.k5.c9 (fnP (sbA (stA p 15) 0)) (.stmts (fnB (sbA (stA p 15) 0))) (fnS (sbA (stA p 15) 0)) 0 [] Value.none Value.none Value.none Value.none none Value.none Value.none 0)) (List.toArray []))
noncomputable def o_348 (p : Program) (A : At) (P : Params) : Obj := (Obj.mk (Value.type "code") none (Data.fields (List.toArray [(.str A.k0.c1 570), (.str A.k5.c9 571), (.str A.k1.c7 572), (.int 77 0), (.int 2 0), (.int 0 0), (.int 0 0), (.int 3 0), (.ref 286), (.bool Bool.true), (.int 181 0), (.ref 287), Value.none, (.ref 288), (.ref 289), (.ref 290), (.int 575 0), (.int 77 0), (.str A.k1.c7 576)])) (List.toArray []))
noncomputable def o_349 (p : Program) (A : At) (P : Params) : Obj := (Obj.mk (Value.type "function") none (Data.func (FuncData.mk A.k0.c1 A.k5.c9 (fnP (sbA (stA p 15) 0)) (.stmts (fnB (sbA (stA p 15) 0))) (fnS (sbA (stA p 15) 0)) 3 [] Value.none Value.none Value.none (.str A.k0.c0 187) none (.ref 291) Value.none 0)) (List.toArray []))
noncomputable def o_350 (p : Program) (A : At) (P : Params) : Obj := (Obj.mk (Value.type "tuple") none (Data.seq (List.toArray [(.str A.k5.c8 578)]) 0) (List.toArray []))
noncomputable def o_351 (p : Program) (A : At) (P : Params) : Obj := (Obj.mk (Value.type "dict") none (Data.dict (List.toArray [(E (PyData.keyHash P A.k0.c5) (.str A.k0.c5 565) (.str A.k0.c0 187)), (E (PyData.keyHash P A.k0.c6) (.str A.k0.c6 569) (.int 75 568)), (E (PyData.keyHash P A.k0.c1) (.str A.k0.c1 577) (.ref 292)), (E (PyData.keyHash P A.k0.c7) (.str A.k0.c7 579) (.ref 293)), (E (PyData.keyHash P A.k0.c8) (.str A.k0.c8 581) (.ref 296)), (E (PyData.keyHash P A.k0.c9) (.str A.k0.c9 583) (.ref 297)), (E (PyData.keyHash P A.k0.c10) (.str A.k0.c10 584) Value.none)]) 4) (List.toArray []))
noncomputable def o_352 (p : Program) (A : At) (P : Params) : Obj := (Obj.mk (Value.type "type") none (Data.cls (ClassData.mk A.k5.c7 [(Value.type "object")] [(.ref 295), (Value.type "object")] 294 A.k5.c7 Bool.true [] [] Bool.false none Bool.false)) (List.toArray [none, none, (some (.str A.k5.c7 558)), (some (.str A.k5.c7 566)), (some (Value.builtin "object.__new__")), (some (.bool Bool.true))]))
noncomputable def o_353 (p : Program) (A : At) (P : Params) : Obj := (Obj.mk (Value.type "getset_descriptor") none (Data.fields (List.toArray [(.str A.k0.c8 580), (.ref 295), (Value.builtin "function.__dict__"), (Value.builtin "function.__dict__#set")])) (List.toArray []))
noncomputable def o_354 (p : Program) (A : At) (P : Params) : Obj := (Obj.mk (Value.type "getset_descriptor") none (Data.fields (List.toArray [(.str A.k0.c9 582), (.ref 295), (Value.builtin "ExceptionGroup.__weakref__"), Value.none])) (List.toArray []))
noncomputable def o_355 (p : Program) (A : At) (P : Params) : Obj := (Obj.mk (Value.type "super") none (Data.fields (List.toArray [(.ref 295), (.ref 295), (.ref 295)])) (List.toArray []))
noncomputable def o_356 (p : Program) (A : At) (P : Params) : Obj := (Obj.mk (Value.type "builtin_function_or_method") none (Data.fields (List.toArray [(Value.builtin "object.__init_subclass__"), (.ref 295)])) (List.toArray []))
noncomputable def o_357 (p : Program) (A : At) (P : Params) : Obj := (Obj.mk (Value.type "dict") none (Data.dict (List.toArray [(E (PyData.keyHash P A.k1.c0) (.str A.k1.c0 165) (.str A.k0.c0 187)), (E (PyData.keyHash P A.k0.c10) (.str A.k0.c10 166) Value.none), (E (PyData.keyHash P A.k1.c1) (.str A.k1.c1 167) Value.none), (E (PyData.keyHash P A.k1.c2) (.str A.k1.c2 168) (Value.builtin "__main__.__loader__#opaque")), (E (PyData.keyHash P A.k1.c3) (.str A.k1.c3 169) Value.none), (E (PyData.keyHash P A.k1.c4) (.str A.k1.c4 170) (.ref 6)), (E (PyData.keyHash P A.k1.c5) (.str A.k1.c5 171) (.ref 4)), (E (PyData.keyHash P A.k1.c6) (.str A.k1.c6 173) (.str A.k1.c7 172)), (E (PyData.keyHash P A.k1.c8) (.str A.k1.c8 174) Value.none), (E (PyData.keyHash P A.k1.c9) (.str A.k1.c9 217) (.ref 31)), (E (PyData.keyHash P A.k1.c10) (.str A.k1.c10 223) (.ref 37)), (E (PyData.keyHash P A.k1.c11) (.str A.k1.c11 229) (.ref 40)), (E (PyData.keyHash P A.k2.c0) (.str A.k2.c0 235) (.ref 43)), (E (PyData.keyHash P A.k2.c1) (.str A.k2.c1 241) (.ref 46)), (E (PyData.keyHash P A.k0.c11) (.str A.k0.c11 272) (.ref 64)), (E (PyData.keyHash P A.k2.c2) (.str A.k2.c2 350) (.ref 127)), (E (PyData.keyHash P A.k3.c10) (.str A.k3.c10 381) (.ref 148)), (E (PyData.keyHash P A.k4.c2) (.str A.k4.c2 410) (.ref 169)), (E (PyData.keyHash P A.k4.c5) (.str A.k4.c5 439) (.ref 190)), (E (PyData.keyHash P A.k4.c8) (.str A.k4.c8 468) (.ref 211)), (E (PyData.keyHash P A.k4.c11) (.str A.k4.c11 497) (.ref 232)), (E (PyData.keyHash P A.k5.c2) (.str A.k5.c2 528) (.ref 253)), (E (PyData.keyHash P A.k5.c5) (.str A.k5.c5 557) (.ref 274)), (E (PyData.keyHash P A.k5.c7) (.str A.k5.c7 586) (.ref 295)), (E (PyData.keyHash P A.k5.c10) (.str A.k5.c10 612) (.ref 316)), (E (PyData.keyHash P A.k5.c11) (.str A.k5.c11 618) (.ref 323)), (E (PyData.keyHash P A.k6.c0) (.str A.k6.c0 624) (.ref 328)), (E (PyData.keyHash P A.k6.c1) (.str A.k6.c1 634) (.ref 336)), (E (PyData.keyHash P A.k6.c2) (.str A.k6.c2 644) (.ref 343)), (E (PyData.keyHash P A.k6.c3) (.str A.k6.c3 653) (.ref 350))]) 30) (List.toArray []))
noncomputable def o_358 (p : Program) (A : At) (P : Params) : Obj := (Obj.mk Value.none none (Data.fields (List.toArray [(.int 2 0), (.int 0 0), (.ref 20), (.int 10 0), (.int 0 0), (.ref 53), (.int 15 0), (.int 0 0), (.ref 74), (.int 45 0), (.int 0 0), (.ref 137), (.int 50 0), (.int 0 0), (.ref 158), (.int 54 0), (.int 0 0), (.ref 179), (.int 58 0), (.int 0 0), (.ref 200), (.int 62 0), (.int 0 0), (.ref 221), (.int 66 0), (.int 0 0), (.ref 242), (.int 71 0), (.int 0 0), (.ref 263), (.int 75 0), (.int 0 0), (.ref 284), (.int 79 0), (.int 0 0), (.ref 305), (.int 84 0), (.int 0 0), (.ref 322), (.int 86 0), (.int 0 0), (.ref 327), (.int 88 0), (.int 0 0), (.ref 335), (.int 93 0), (.int 0 0), (.ref 342), (.int 105 0), (.int 0 0), (.ref 349)])) (List.toArray []))
noncomputable def o_359 (p : Program) (A : At) (P : Params) : Obj := (Obj.mk (Value.type "type") none (Data.cls (ClassData.mk A.k5.c7 [(Value.type "object")] [(.ref 295), (Value.type "object")] 294 A.k5.c7 Bool.true [] [(.ref 316)] Bool.false none Bool.false)) (List.toArray [none, none, (some (.str A.k5.c7 558)), (some (.str A.k5.c7 566)), (some (Value.builtin "object.__new__")), (some (.bool Bool.true))]))
noncomputable def o_360 (p : Program) (A : At) (P : Params) : Obj := (Obj.mk (Value.type "tuple") none (Data.seq (List.toArray [(.ref 295)]) 0) (List.toArray []))
noncomputable def o_361 (p : Program) (A : At) (P : Params) : Obj := (Obj.mk (Value.type "builtin_function_or_method") none (Data.fields (List.toArray [(Value.builtin "type.__prepare__"), (Value.type "type")])) (List.toArray []))
noncomputable def o_362 (p : Program) (A : At) (P : Params) : Obj := (Obj.mk (Value.type "dict") none (Data.dict (List.toArray [(E (PyData.keyHash P A.k0.c5) (.str A.k0.c5 594) (.str A.k0.c0 187)), (E (PyData.keyHash P A.k2.c3) (.str A.k2.c3 596) (.str A.k5.c10 595)), (E (PyData.keyHash P A.k0.c6) (.str A.k0.c6 598) (.int 79 597)), (E (PyData.keyHash P A.k0.c1) (.str A.k0.c1 607) (.ref 313)), (E (PyData.keyHash P A.k0.c7) (.str A.k0.c7 609) (.ref 314))]) 5) (List.toArray []))
noncomputable def o_363 (p : Program) (A : At) (P : Params) : Obj := (Obj.mk (Value.type "tuple") none (Data.seq (List.toArray []) 0) (List.toArray []))
noncomputable def o_364 (p : Program) (A : At) (P : Params) : Obj := (Obj.mk Value.none none (Data.fields (List.toArray [(.int 81 0), (.int 4 0), (.ref 312)])) (List.toArray []))
noncomputable def o_365 (p : Program) (A : At) (P : Params) : Obj := (Obj.mk (Value.type "code") none (Data.fields (List.toArray [(.str A.k5.c10 589), (.str A.k5.c10 590), (.str A.k1.c7 591), (.int 79 0), (.int 0 0), (.int 0 0), (.int 0 0), (.int 0 0), (.ref 303), (.bool Bool.false), (.int 181 0), (.ref 304), Value.none, Value.none, Value.none, Value.none, (.int 592 0), (.int 79 0), (.str A.k1.c7 593)])) (List.toArray []))
noncomputable def o_366 (p : Program) (A : At) (P : Params) : Obj := (Obj.mk (Value.type "frame") none Data.plain (List.toArray [(some (.ref 305)), (some (.ref 3)), (some (.ref 302)), none, (some (.str A.k0.c0 187)), none, (some (.ref 0))]))
noncomputable def o_367 (p : Program) (A : At) (P : Params) : Obj := (Obj.mk (Value.type "tuple") none (Data.seq (List.toArray []) 0) (List.toArray []))
noncomputable def o_368 (p : Program) (A : At) (P : Params) : Obj := (Obj.mk Value.none none (Data.fields (List.toArray [])) (List.toArray []))
noncomputable def o_369 (p : Program) (A : At) (P : Params) : Obj := (Obj.mk (Value.type "tuple") none (Data.seq (List.toArray [(.str A.k2.c10 602), (.str A.k6.c4 603), (.str A.k5.c8 604)]) 0) (List.toArray []))
noncomputable def o_370 (p : Program) (A : At) (P : Params) : Obj := (Obj.mk (Value.type "tuple") none (Data.seq (List.toArray []) 0) (List.toArray []))
noncomputable def o_371 (p : Program) (A : At) (P : Params) : Obj := (Obj.mk Value.none none (Data.func (FuncData.mk A.k0.c1 A.k6.c5 (fnP (sbA (stA p 16) 0)) (.stmts (fnB (sbA (stA p 16) 0))) (fnS (sbA (stA p 16) 0)) 0 [] Value.none Value.none Value.none Value.none none Value.none Value.none 0)) (List.toArray []))
noncomputable def o_372 (p : Program) (A : At) (P : Params) : Obj := (Obj.mk (Value.type "code") none (Data.fields (List.toArray [(.str A.k0.c1 599), (.str A.k6.c5 600), (.str A.k1.c7 601), (.int 81 0), (.int 3 0), (.int 0 0), (.int 0 0), (.int 3 0), (.ref 307), (.bool Bool.true), (.int 181 0), (.ref 308), Value.none, (.ref 309), (.ref 310), (.ref 311), (.int 605 0), (.int 81 0), (.str A.k1.c7 606)])) (List.toArray []))
noncomputable def o_373 (p : Program) (A : At) (P : Params) : Obj := (Obj.mk (Value.type "function") none (Data.func (FuncData.mk A.k0.c1 A.k6.c5 (fnP (sbA (stA p 16) 0)) (.stmts (fnB (sbA (stA p 16) 0))) (fnS (sbA (stA p 16) 0)) 3 [] Value.none Value.none Value.none (.str A.k0.c0 187) none (.ref 312) Value.none 0)) (List.toArray []))
noncomputable def o_374 (p : Program) (A : At) (P : Params) : Obj := (Obj.mk (Value.type "tuple") none (Data.seq (List.toArray [(.str A.k6.c4 608)]) 0) (List.toArray []))
noncomputable def o_375 (p : Program) (A : At) (P : Params) : Obj := (Obj.mk (Value.type "dict") none (Data.dict (List.toArray [(E (PyData.keyHash P A.k0.c5) (.str A.k0.c5 594) (.str A.k0.c0 187)), (E (PyData.keyHash P A.k0.c6) (.str A.k0.c6 598) (.int 79 597)), (E (PyData.keyHash P A.k0.c1) (.str A.k0.c1 607) (.ref 313)), (E (PyData.keyHash P A.k0.c7) (.str A.k0.c7 609) (.ref 314)), (E (PyData.keyHash P A.k0.c10) (.str A.k0.c10 610) Value.none)]) 2) (List.toArray []))
noncomputable def o_376 (p : Program) (A : At) (P : Params) : Obj := (Obj.mk (Value.type "type") none (Data.cls (ClassData.mk A.k5.c10 [(.ref 295)] [(.ref 316), (.ref 295), (Value.type "object")] 315 A.k5.c10 Bool.true [] [] Bool.false none Bool.false)) (List.toArray [(some (.ref 300)), none, (some (.str A.k5.c10 587)), (some (.str A.k5.c10 595)), (some (Value.builtin "object.__new__")), (some (.bool Bool.true))]))
noncomputable def o_377 (p : Program) (A : At) (P : Params) : Obj := (Obj.mk (Value.type "super") none (Data.fields (List.toArray [(.ref 316), (.ref 316), (.ref 316)])) (List.toArray []))
noncomputable def o_378 (p : Program) (A : At) (P : Params) : Obj := (Obj.mk (Value.type "builtin_function_or_method") none (Data.fields (List.toArray [(Value.builtin "object.__init_subclass__"), (.ref 316)])) (List.toArray []))
noncomputable def o_379 (p : Program) (A : At) (P : Params) : Obj := (Obj.mk (Value.type "tuple") none (Data.seq (List.toArray []) 0) (List.toArray []))
noncomputable def o_380 (p : Program) (A : At) (P : Params) : Obj := (Obj.mk Value.none none (Data.fields (List.toArray [])) (List.toArray []))
noncomputable def o_381 (p : Program) (A : At) (P : Params) : Obj := (Obj.mk Value.none none (Data.func (FuncData.mk A.k5.c11 A.k5.c11 (fnP (stA p 17)) (.stmts (fnB (stA p 17))) (fnS (stA p 17)) 0 [] Value.none Value.none Value.none Value.none none Value.none Value.none 0)) (List.toArray []))
noncomputable def o_382 (p : Program) (A : At) (P : Params) : Obj := (Obj.mk (Value.type "code") none (Data.fields (List.toArray [(.str A.k5.c11 613), (.str A.k5.c11 614), (.str A.k1.c7 615), (.int 84 0), (.int 1 0), (.int 0 0), (.int 0 0), (.int 3 0), (.ref 319), (.bool Bool.true), (.int 181 0), (.ref 320), Value.none, Value.none, Value.none, (.ref 321), (.int 616 0), (.int 84 0), (.str A.k1.c7 617)])) (List.toArray []))
noncomputable def o_383 (p : Program) (A : At) (P : Params) : Obj := (Obj.mk (Value.type "function") none (Data.func (FuncData.mk A.k5.c11 A.k5.c11 (fnP (stA p 17)) (.stmts (fnB (stA p 17))) (fnS (stA p 17)) 3 [] Value.none Value.none Value.none (.str A.k0.c0 187) none (.ref 322) Value.none 0)) (List.toArray []))
noncomputable def o_384 (p : Program) (A : At) (P : Params) : Obj := (Obj.mk (Value.type "tuple") none (Data.seq (List.toArray []) 0) (List.toArray []))
noncomputable def o_385 (p : Program) (A : At) (P : Params) : Obj := (Obj.mk Value.none none (Data.fields (List.toArray [])) (List.toArray []))
noncomputable def o_386 (p : Program) (A : At) (P : Params) : Obj := (Obj.mk Value.none none (Data.func (FuncData.mk A.k6.c0 A.k6.c0 (fnP (stA p 18)) (.stmts (fnB (stA p 18))) (fnS (stA p 18)) 0 [] Value.none Value.none Value.none Value.none none Value.none Value.none 0)) (List.toArray []))
noncomputable def o_387 (p : Program) (A : At) (P : Params) : Obj := (Obj.mk (Value.type "code") none (Data.fields (List.toArray [(.str A.k6.c0 619), (.str A.k6.c0 620), (.str A.k1.c7 621), (.int 86 0), (.int 1 0), (.int 0 0), (.int 0 0), (.int 3 0), (.ref 324), (.bool Bool.true), (.int 181 0), (.ref 325), Value.none, Value.none, Value.none, (.ref 326), (.int 622 0), (.int 86 0), (.str A.k1.c7 623)])) (List.toArray []))
noncomputable def o_388 (p : Program) (A : At) (P : Params) : Obj := (Obj.mk (Value.type "function") none (Data.func (FuncData.mk A.k6.c0 A.k6.c0 (fnP (stA p 18)) (.stmts (fnB (stA p 18))) (fnS (stA p 18)) 3 [] Value.none Value.none Value.none (.str A.k0.c0 187) none (.ref 327) Value.none 0)) (List.toArray []))
noncomputable def o_389 (p : Program) (A : At) (P : Params) : Obj := (Obj.mk (Value.type "tuple") none (Data.seq (List.toArray [(.ref 37)]) 0) (List.toArray []))
noncomputable def o_390 (p : Program) (A : At) (P : Params) : Obj := (Obj.mk (Value.type "tuple") none (Data.seq (List.toArray []) 0) (List.toArray []))
noncomputable def o_391 (p : Program) (A : At) (P : Params) : Obj := (Obj.mk Value.none none (Data.fields (List.toArray [])) (List.toArray []))
noncomputable def o_392 (p : Program) (A : At) (P : Params) : Obj := (Obj.mk (Value.type "tuple") none (Data.seq (List.toArray [(.str A.k4.c9 628), (.str A.k6.c6 629), (.str A.k3.c0 630), (.str A.k6.c7 631)]) 0) (List.toArray []))
noncomputable def o_393 (p : Program) (A : At) (P : Params) : Obj := (Obj.mk (Value.type "tuple") none (Data.seq (List.toArray []) 0) (List.toArray []))
noncomputable def o_394 (p : Program) (A : At) (P : Params) : Obj := (Obj.mk Value.none none (Data.func (FuncData.mk A.k6.c1 A.k6.c1 (fnP (stA p 19)) (.stmts (fnB (stA p 19))) (fnS (stA p 19)) 0 [] Value.none Value.none Value.none Value.none none Value.none Value.none 0)) (List.toArray []))
noncomputable def o_395 (p : Program) (A : At) (P : Params) : Obj := (Obj.mk (Value.type "code") none (Data.fields (List.toArray [(.str A.k6.c1 625), (.str A.k6.c1 626), (.str A.k1.c7 627), (.int 88 0), (.int 2 0), (.int 0 0), (.int 0 0), (.int 3 0), (.ref 330), (.bool Bool.true), (.int 181 0), (.ref 331), Value.none, (.ref 332), (.ref 333), (.ref 334), (.int 632 0), (.int 88 0), (.str A.k1.c7 633)])) (List.toArray []))
noncomputable def o_396 (p : Program) (A : At) (P : Params) : Obj := (Obj.mk (Value.type "function") none (Data.func (FuncData.mk A.k6.c1 A.k6.c1 (fnP (stA p 19)) (.stmts (fnB (stA p 19))) (fnS (stA p 19)) 3 [] (.ref 329) Value.none Value.none (.str A.k0.c0 187) none (.ref 335) Value.none 0)) (List.toArray []))
noncomputable def o_397 (p : Program) (A : At) (P : Params) : Obj := (Obj.mk (Value.type "tuple") none (Data.seq (List.toArray []) 0) (List.toArray []))
noncomputable def o_398 (p : Program) (A : At) (P : Params) : Obj := (Obj.mk Value.none none (Data.fields (List.toArray [])) (List.toArray []))
noncomputable def o_399 (p : Program) (A : At) (P : Params) : Obj := (Obj.mk (Value.type "tuple") none (Data.seq (List.toArray [(.str A.k6.c8 638), (.str A.k4.c9 639), (.str A.k6.c9 640), (.str A.k6.c10 641)]) 0) (List.toArray []))
noncomputable def o_400 (p : Program) (A : At) (P : Params) : Obj := (Obj.mk (Value.type "tuple") none (Data.seq (List.toArray []) 0) (List.toArray []))
noncomputable def o_401 (p : Program) (A : At) (P : Params) : Obj := (Obj.mk Value.none none (Data.func (FuncData.mk A.k6.c2 A.k6.c2 (fnP (stA p 20)) (.stmts (fnB (stA p 20))) (fnS (stA p 20)) 0 [] Value.none Value.none Value.none Value.none none Value.none Value.none 0)) (List.toArray []))
noncomputable def o_402 (p : Program) (A : At) (P : Params) : Obj := (Obj.mk (Value.type "code") none (Data.fields (List.toArray [(.str A.k6.c2 635), (.str A.k6.c2 636), (.str A.k1.c7 637), (.int 93 0), (.int 1 0), (.int 0 0), (.int 0 0), (.int 3 0), (.ref 337), (.bool Bool.true), (.int 181 0), (.ref 338), Value.none, (.ref 339), (.ref 340), (.ref 341), (.int 642 0), (.int 93 0), (.str A.k1.c7 643)])) (List.toArray []))
noncomputable def o_403 (p : Program) (A : At) (P : Params) : Obj := (Obj.mk (Value.type "function") none (Data.func (FuncData.mk A.k6.c2 A.k6.c2 (fnP (stA p 20)) (.stmts (fnB (stA p 20))) (fnS (stA p 20)) 3 [] Value.none Value.none Value.none (.str A.k0.c0 187) none (.ref 342) Value.none 0)) (List.toArray []))
noncomputable def o_404 (p : Program) (A : At) (P : Params) : Obj := (Obj.mk (Value.type "tuple") none (Data.seq (List.toArray []) 0) (List.toArray []))
noncomputable def o_405 (p : Program) (A : At) (P : Params) : Obj := (Obj.mk Value.none none (Data.fields (List.toArray [])) (List.toArray []))
noncomputable def o_406 (p : Program) (A : At) (P : Params) : Obj := (Obj.mk (Value.type "tuple") none (Data.seq (List.toArray [(.str A.k6.c8 648), (.str A.k4.c9 649), (.str A.k6.c6 650)]) 0) (List.toArray []))
noncomputable def o_407 (p : Program) (A : At) (P : Params) : Obj := (Obj.mk (Value.type "tuple") none (Data.seq (List.toArray []) 0) (List.toArray []))
noncomputable def o_408 (p : Program) (A : At) (P : Params) : Obj := (Obj.mk Value.none none (Data.func (FuncData.mk A.k6.c3 A.k6.c3 (fnP (stA p 21)) (.stmts (fnB (stA p 21))) (fnS (stA p 21)) 0 [] Value.none Value.none Value.none Value.none none Value.none Value.none 0)) (List.toArray []))
noncomputable def o_409 (p : Program) (A : At) (P : Params) : Obj := (Obj.mk (Value.type "code") none (Data.fields (List.toArray [(.str A.k6.c3 645), (.str A.k6.c3 646), (.str A.k1.c7 647), (.int 105 0), (.int 1 0), (.int 0 0), (.int 0 0), (.int 3 0), (.ref 344), (.bool Bool.true), (.int 181 0), (.ref 345), Value.none, (.ref 346), (.ref 347), (.ref 348), (.int 651 0), (.int 105 0), (.str A.k1.c7 652)])) (List.toArray []))
noncomputable def o_410 (p : Program) (A : At) (P : Params) : Obj := (Obj.mk (Value.type "function") none (Data.func (FuncData.mk A.k6.c3 A.k6.c3 (fnP (stA p 21)) (.stmts (fnB (stA p 21))) (fnS (stA p 21)) 3 [] Value.none Value.none Value.none (.str A.k0.c0 187) none (.ref 349) Value.none 0)) (List.toArray []))
noncomputable def o_411 (p : Program) (A : At) (P : Params) : Obj := (Obj.mk (Value.type "dict") none (Data.dict (List.toArray [(E (PyData.keyHash P A.k1.c0) (.str A.k1.c0 165) (.str A.k6.c11 696)), (E (PyData.keyHash P A.k0.c10) (.str A.k0.c10 166) Value.none), (E (PyData.keyHash P A.k1.c1) (.str A.k1.c1 167) Value.none), (E (PyData.keyHash P A.k1.c2) (.str A.k1.c2 168) (Value.builtin "__main__.__loader__#opaque")), (E (PyData.keyHash P A.k1.c3) (.str A.k1.c3 169) Value.none), (E (PyData.keyHash P A.k1.c4) (.str A.k1.c4 170) (.ref 6)), (E (PyData.keyHash P A.k1.c5) (.str A.k1.c5 171) (.ref 4)), (E (PyData.keyHash P A.k1.c6) (.str A.k1.c6 173) (.str A.k1.c7 172)), (E (PyData.keyHash P A.k1.c8) (.str A.k1.c8 174) Value.none), (E (PyData.keyHash P A.k1.c9) (.str A.k1.c9 217) (.ref 31)), (E (PyData.keyHash P A.k1.c10) (.str A.k1.c10 223) (.ref 37)), (E (PyData.keyHash P A.k1.c11) (.str A.k1.c11 229) (.ref 40)), (E (PyData.keyHash P A.k2.c0) (.str A.k2.c0 235) (.ref 43)), (E (PyData.keyHash P A.k2.c1) (.str A.k2.c1 241) (.ref 46)), (E (PyData.keyHash P A.k0.c11) (.str A.k0.c11 272) (.ref 64)), (E (PyData.keyHash P A.k2.c2) (.str A.k2.c2 350) (.ref 127)), (E (PyData.keyHash P A.k3.c10) (.str A.k3.c10 381) (.ref 148)), (E (PyData.keyHash P A.k4.c2) (.str A.k4.c2 410) (.ref 169)), (E (PyData.keyHash P A.k4.c5) (.str A.k4.c5 439) (.ref 190)), (E (PyData.keyHash P A.k4.c8) (.str A.k4.c8 468) (.ref 211)), (E (PyData.keyHash P A.k4.c11) (.str A.k4.c11 497) (.ref 232)), (E (PyData.keyHash P A.k5.c2) (.str A.k5.c2 528) (.ref 253)), (E (PyData.keyHash P A.k5.c5) (.str A.k5.c5 557) (.ref 274)), (E (PyData.keyHash P A.k5.c7) (.str A.k5.c7 586) (.ref 295)), (E (PyData.keyHash P A.k5.c10) (.str A.k5.c10 612) (.ref 316)), (E (PyData.keyHash P A.k5.c11) (.str A.k5.c11 618) (.ref 323)), (E (PyData.keyHash P A.k6.c0) (.str A.k6.c0 624) (.ref 328)), (E (PyData.keyHash P A.k6.c1) (.str A.k6.c1 634) (.ref 336)), (E (PyData.keyHash P A.k6.c2) (.str A.k6.c2 644) (.ref 343)), (E (PyData.keyHash P A.k6.c3) (.str A.k6.c3 653) (.ref 350)), (E (PyData.keyHash P A.k7.c0) (.str A.k7.c0 660) (.ref 357)), (E (PyData.keyHash P A.k7.c1) (.str A.k7.c1 667) (.ref 364)), (E (PyData.keyHash P A.k7.c2) (.str A.k7.c2 674) (.ref 371)), (E (PyData.keyHash P A.k7.c3) (.str A.k7.c3 681) (.ref 378)), (E (PyData.keyHash P A.k7.c4) (.str A.k7.c4 688) (.ref 385)), (E (PyData.keyHash P A.k7.c5) (.str A.k7.c5 695) (.ref 392)), (E (PyData.keyHash P A.k7.c6) (.str A.k7.c6 705) (.ref 399)), (E (PyData.keyHash P A.k7.c7) (.str A.k7.c7 711) (.ref 404)), (E (PyData.keyHash P A.k7.c8) (.str A.k7.c8 717) (.ref 409)), (E (PyData.keyHash P A.k7.c9) (.str A.k7.c9 723) (.ref 414)), (E (PyData.keyHash P A.k7.c10) (.str A.k7.c10 729) (.ref 419))]) 41) (List.toArray []))
noncomputable def o_412 (p : Program) (A : At) (P : Params) : Obj := (Obj.mk Value.none none (Data.fields (List.toArray [(.int 2 0), (.int 0 0), (.ref 20), (.int 10 0), (.int 0 0), (.ref 53), (.int 15 0), (.int 0 0), (.ref 74), (.int 45 0), (.int 0 0), (.ref 137), (.int 50 0), (.int 0 0), (.ref 158), (.int 54 0), (.int 0 0), (.ref 179), (.int 58 0), (.int 0 0), (.ref 200), (.int 62 0), (.int 0 0), (.ref 221), (.int 66 0), (.int 0 0), (.ref 242), (.int 71 0), (.int 0 0), (.ref 263), (.int 75 0), (.int 0 0), (.ref 284), (.int 79 0), (.int 0 0), (.ref 305), (.int 84 0), (.int 0 0), (.ref 322), (.int 86 0), (.int 0 0), (.ref 327), (.int 88 0), (.int 0 0), (.ref 335), (.int 93 0), (.int 0 0), (.ref 342), (.int 105 0), (.int 0 0), (.ref 349), (.int 108 0), (.int 0 0), (.ref 356), (.int 110 0), (.int 0 0), (.ref 363), (.int 112 0), (.int 0 0), (.ref 370), (.int 114 0), (.int 0 0), (.ref 377), (.int 116 0), (.int 0 0), (.ref 384), (.int 118 0), (.int 0 0), (.ref 391), (.int 141 0), (.int 0 0), (.ref 398), (.int 146 0), (.int 0 0), (.ref 403), (.int 173 0), (.int 0 0), (.ref 408), (.int 191 0), (.int 0 0), (.ref 413), (.int 208 0), (.int 0 0), (.ref 418)])) (List.toArray []))
noncomputable def o_413 (p : Program) (A : At) (P : Params) : Obj := (Obj.mk (Value.type "tuple") none (Data.seq (List.toArray []) 0) (List.toArray []))
noncomputable def o_414 (p : Program) (A : At) (P : Params) : Obj := (Obj.mk Value.none none (Data.fields (List.toArray [])) (List.toArray []))
noncomputable def o_415 (p : Program) (A : At) (P : Params) : Obj := (Obj.mk (Value.type "tuple") none (Data.seq (List.toArray [(.str A.k6.c8 657)]) 0) (List.toArray []))
noncomputable def o_416 (p : Program) (A : At) (P : Params) : Obj := (Obj.mk (Value.type "tuple") none (Data.seq (List.toArray []) 0) (List.toArray []))
noncomputable def o_417 (p : Program) (A : At) (P : Params) : Obj := (Obj.mk Value.none none (Data.func (FuncData.mk A.k7.c0 A.k7.c0 (fnP (stA p 22)) (.stmts (fnB (stA p 22))) (fnS (stA p 22)) 0 [] Value.none Value.none Value.none Value.none none Value.none Value.none 0)) (List.toArray []))
noncomputable def o_418 (p : Program) (A : At) (P : Params) : Obj := (Obj.mk (Value.type "code") none (Data.fields (List.toArray [(.str A.k7.c0 654), (.str A.k7.c0 655), (.str A.k1.c7 656), (.int 108 0), (.int 1 0), (.int 0 0), (.int 0 0), (.int 3 0), (.ref 351), (.bool Bool.true), (.int 181 0), (.ref 352), Value.none, (.ref 353), (.ref 354), (.ref 355), (.int 658 0), (.int 108 0), (.str A.k1.c7 659)])) (List.toArray []))
noncomputable def o_419 (p : Program) (A : At) (P : Params) : Obj := (Obj.mk (Value.type "function") none (Data.func (FuncData.mk A.k7.c0 A.k7.c0 (fnP (stA p 22)) (.stmts (fnB (stA p 22))) (fnS (stA p 22)) 3 [] Value.none Value.none Value.none (.str A.k0.c0 187) none (.ref 356) Value.none 0)) (List.toArray []))
noncomputable def o_420 (p : Program) (A : At) (P : Params) : Obj := (Obj.mk (Value.type "tuple") none (Data.seq (List.toArray []) 0) (List.toArray []))
noncomputable def o_421 (p : Program) (A : At) (P : Params) : Obj := (Obj.mk Value.none none (Data.fields (List.toArray [])) (List.toArray []))
noncomputable def o_422 (p : Program) (A : At) (P : Params) : Obj := (Obj.mk (Value.type "tuple") none (Data.seq (List.toArray [(.str A.k6.c8 664)]) 0) (List.toArray []))
noncomputable def o_423 (p : Program) (A : At) (P : Params) : Obj := (Obj.mk (Value.type "tuple") none (Data.seq (List.toArray []) 0) (List.toArray []))
noncomputable def o_424 (p : Program) (A : At) (P : Params) : Obj := (Obj.mk Value.none none (Data.func (FuncData.mk A.k7.c1 A.k7.c1 (fnP (stA p 23)) (.stmts (fnB (stA p 23))) (fnS (stA p 23)) 0 [] Value.none Value.none Value.none Value.none none Value.none Value.none 0)) (List.toArray []))
noncomputable def o_425 (p : Program) (A : At) (P : Params) : Obj := (Obj.mk (Value.type "code") none (Data.fields (List.toArray [(.str A.k7.c1 661), (.str A.k7.c1 662), (.str A.k1.c7 663), (.int 110 0), (.int 1 0), (.int 0 0), (.int 0 0), (.int 3 0), (.ref 358), (.bool Bool.true), (.int 181 0), (.ref 359), Value.none, (.ref 360), (.ref 361), (.ref 362), (.int 665 0), (.int 110 0), (.str A.k1.c7 666)])) (List.toArray []))
noncomputable def o_426 (p : Program) (A : At) (P : Params) : Obj := (Obj.mk (Value.type "function") none (Data.func (FuncData.mk A.k7.c1 A.k7.c1 (fnP (stA p 23)) (.stmts (fnB (stA p 23))) (fnS (stA p 23)) 3 [] Value.none Value.none Value.none (.str A.k0.c0 187) none (.ref 363) Value.none 0)) (List.toArray []))
noncomputable def o_427 (p : Program) (A : At) (P : Params) : Obj := (Obj.mk (Value.type "tuple") none (Data.seq (List.toArray []) 0) (List.toArray []))
noncomputable def o_428 (p : Program) (A : At) (P : Params) : Obj := (Obj.mk Value.none none (Data.fields (List.toArray [])) (List.toArray []))
noncomputable def o_429 (p : Program) (A : At) (P : Params) : Obj := (Obj.mk (Value.type "tuple") none (Data.seq (List.toArray [(.str A.k6.c8 671)]) 0) (List.toArray []))
noncomputable def o_430 (p : Program) (A : At) (P : Params) : Obj := (Obj.mk (Value.type "tuple") none (Data.seq (List.toArray []) 0) (List.toArray []))
noncomputable def o_431 (p : Program) (A : At) (P : Params) : Obj := (Obj.mk Value.none none (Data.func (FuncData.mk A.k7.c2 A.k7.c2 (fnP (stA p 24)) (.stmts (fnB (stA p 24))) (fnS (stA p 24)) 0 [] Value.none Value.none Value.none Value.none none Value.none Value.none 0)) (List.toArray []))
noncomputable def o_432 (p : Program) (A : At) (P : Params) : Obj := (Obj.mk (Value.type "code") none (Data.fields (List.toArray [(.str A.k7.c2 668), (.str A.k7.c2 669), (.str A.k1.c7 670), (.int 112 0), (.int 1 0), (.int 0 0), (.int 0 0), (.int 3 0), (.ref 365), (.bool Bool.true), (.int 181 0), (.ref 366), Value.none, (.ref 367), (.ref 368), (.ref 369), (.int 672 0), (.int 112 0), (.str A.k1.c7 673)])) (List.toArray []))
noncomputable def o_433 (p : Program) (A : At) (P : Params) : Obj := (Obj.mk (Value.type "function") none (Data.func (FuncData.mk A.k7.c2 A.k7.c2 (fnP (stA p 24)) (.stmts (fnB (stA p 24))) (fnS (stA p 24)) 3 [] Value.none Value.none Value.none (.str A.k0.c0 187) none (.ref 370) Value.none 0)) (List.toArray []))
noncomputable def o_434 (p : Program) (A : At) (P : Params) : Obj := (Obj.mk (Value.type "tuple") none (Data.seq (List.toArray []) 0) (List.toArray []))
noncomputable def o_435 (p : Program) (A : At) (P : Params) : Obj := (Obj.mk Value.none none (Data.fields (List.toArray [])) (List.toArray []))
noncomputable def o_436 (p : Program) (A : At) (P : Params) : Obj := (Obj.mk (Value.type "tuple") none (Data.seq (List.toArray [(.str A.k6.c8 678)]) 0) (List.toArray []))
noncomputable def o_437 (p : Program) (A : At) (P : Params) : Obj := (Obj.mk (Value.type "tuple") none (Data.seq (List.toArray []) 0) (List.toArray []))
noncomputable def o_438 (p : Program) (A : At) (P : Params) : Obj := (Obj.mk Value.none none (Data.func (FuncData.mk A.k7.c3 A.k7.c3 (fnP (stA p 25)) (.stmts (fnB (stA p 25))) (fnS (stA p 25)) 0 [] Value.none Value.none Value.none Value.none none Value.none Value.none 0)) (List.toArray []))
noncomputable def o_439 (p : Program) (A : At) (P : Params) : Obj := (Obj.mk (Value.type "code") none (Data.fields (List.toArray [(.str A.k7.c3 675), (.str A.k7.c3 676), (.str A.k1.c7 677), (.int 114 0), (.int 1 0), (.int 0 0), (.int 0 0), (.int 3 0), (.ref 372), (.bool Bool.true), (.int 181 0), (.ref 373), Value.none, (.ref 374), (.ref 375), (.ref 376), (.int 679 0), (.int 114 0), (.str A.k1.c7 680)])) (List.toArray []))
noncomputable def o_440 (p : Program) (A : At) (P : Params) : Obj := (Obj.mk (Value.type "function") none (Data.func (FuncData.mk A.k7.c3 A.k7.c3 (fnP (stA p 25)) (.stmts (fnB (stA p 25))) (fnS (stA p 25)) 3 [] Value.none Value.none Value.none (.str A.k0.c0 187) none (.ref 377) Value.none 0)) (List.toArray []))
noncomputable def o_441 (p : Program) (A : At) (P : Params) : Obj := (Obj.mk (Value.type "tuple") none (Data.seq (List.toArray []) 0) (List.toArray []))
noncomputable def o_442 (p : Program) (A : At) (P : Params) : Obj := (Obj.mk Value.none none (Data.fields (List.toArray [])) (List.toArray []))
noncomputable def o_443 (p : Program) (A : At) (P : Params) : Obj := (Obj.mk (Value.type "tuple") none (Data.seq (List.toArray [(.str A.k6.c8 685)]) 0) (List.toArray []))
noncomputable def o_444 (p : Program) (A : At) (P : Params) : Obj := (Obj.mk (Value.type "tuple") none (Data.seq (List.toArray []) 0) (List.toArray []))
noncomputable def o_445 (p : Program) (A : At) (P : Params) : Obj := (Obj.mk Value.none none (Data.func (FuncData.mk A.k7.c4 A.k7.c4 (fnP (stA p 26)) (.stmts (fnB (stA p 26))) (fnS (stA p 26)) 0 [] Value.none Value.none Value.none Value.none none Value.none Value.none 0)) (List.toArray []))
noncomputable def o_446 (p : Program) (A : At) (P : Params) : Obj := (Obj.mk (Value.type "code") none (Data.fields (List.toArray [(.str A.k7.c4 682), (.str A.k7.c4 683), (.str A.k1.c7 684), (.int 116 0), (.int 1 0), (.int 0 0), (.int 0 0), (.int 3 0), (.ref 379), (.bool Bool.true), (.int 181 0), (.ref 380), Value.none, (.ref 381), (.ref 382), (.ref 383), (.int 686 0), (.int 116 0), (.str A.k1.c7 687)])) (List.toArray []))
noncomputable def o_447 (p : Program) (A : At) (P : Params) : Obj := (Obj.mk (Value.type "function") none (Data.func (FuncData.mk A.k7.c4 A.k7.c4 (fnP (stA p 26)) (.stmts (fnB (stA p 26))) (fnS (stA p 26)) 3 [] Value.none Value.none Value.none (.str A.k0.c0 187) none (.ref 384) Value.none 0)) (List.toArray []))
noncomputable def o_448 (p : Program) (A : At) (P : Params) : Obj := (Obj.mk (Value.type "tuple") none (Data.seq (List.toArray []) 0) (List.toArray []))
noncomputable def o_449 (p : Program) (A : At) (P : Params) : Obj := (Obj.mk Value.none none (Data.fields (List.toArray [])) (List.toArray []))
noncomputable def o_450 (p : Program) (A : At) (P : Params) : Obj := (Obj.mk (Value.type "tuple") none (Data.seq (List.toArray [(.str A.k6.c8 692)]) 0) (List.toArray []))
noncomputable def o_451 (p : Program) (A : At) (P : Params) : Obj := (Obj.mk (Value.type "tuple") none (Data.seq (List.toArray []) 0) (List.toArray []))
noncomputable def o_452 (p : Program) (A : At) (P : Params) : Obj := (Obj.mk Value.none none (Data.func (FuncData.mk A.k7.c5 A.k7.c5 (fnP (stA p 27)) (.stmts (fnB (stA p 27))) (fnS (stA p 27)) 0 [] Value.none Value.none Value.none Value.none none Value.none Value.none 0)) (List.toArray []))
noncomputable def o_453 (p : Program) (A : At) (P : Params) : Obj := (Obj.mk (Value.type "code") none (Data.fields (List.toArray [(.str A.k7.c5 689), (.str A.k7.c5 690), (.str A.k1.c7 691), (.int 118 0), (.int 1 0), (.int 0 0), (.int 0 0), (.int 3 0), (.ref 386), (.bool Bool.true), (.int 181 0), (.ref 387), Value.none, (.ref 388), (.ref 389), (.ref 390), (.int 693 0), (.int 118 0), (.str A.k1.c7 694)])) (List.toArray []))
noncomputable def o_454 (p : Program) (A : At) (P : Params) : Obj := (Obj.mk (Value.type "function") none (Data.func (FuncData.mk A.k7.c5 A.k7.c5 (fnP (stA p 27)) (.stmts (fnB (stA p 27))) (fnS (stA p 27)) 3 [] Value.none Value.none Value.none (.str A.k0.c0 187) none (.ref 391) Value.none 0)) (List.toArray []))
noncomputable def o_455 (p : Program) (A : At) (P : Params) : Obj := (Obj.mk (Value.type "tuple") none (Data.seq (List.toArray []) 0) (List.toArray []))
noncomputable def o_456 (p : Program) (A : At) (P : Params) : Obj := (Obj.mk Value.none none (Data.fields (List.toArray [])) (List.toArray []))
noncomputable def o_457 (p : Program) (A : At) (P : Params) : Obj := (Obj.mk (Value.type "tuple") none (Data.seq (List.toArray [(.str A.k8.c0 701), (.str A.k8.c1 702)]) 0) (List.toArray []))
noncomputable def o_458 (p : Program) (A : At) (P : Params) : Obj := (Obj.mk (Value.type "tuple") none (Data.seq (List.toArray []) 0) (List.toArray []))
noncomputable def o_459 (p : Program) (A : At) (P : Params) : Obj := (Obj.mk Value.none none (Data.func (FuncData.mk A.k7.c6 A.k7.c6 (fnP (stA p 29)) (.stmts (fnB (stA p 29))) (fnS (stA p 29)) 0 [] Value.none Value.none Value.none Value.none none Value.none Value.none 0)) (List.toArray []))
noncomputable def o_460 (p : Program) (A : At) (P : Params) : Obj := (Obj.mk (Value.type "code") none (Data.fields (List.toArray [(.str A.k7.c6 698), (.str A.k7.c6 699), (.str A.k1.c7 700), (.int 141 0), (.int 2 0), (.int 0 0), (.int 0 0), (.int 3 0), (.ref 393), (.bool Bool.true), (.int 181 0), (.ref 394), Value.none, (.ref 395), (.ref 396), (.ref 397), (.int 703 0), (.int 141 0), (.str A.k1.c7 704)])) (List.toArray []))
noncomputable def o_461 (p : Program) (A : At) (P : Params) : Obj := (Obj.mk (Value.type "function") none (Data.func (FuncData.mk A.k7.c6 A.k7.c6 (fnP (stA p 29)) (.stmts (fnB (stA p 29))) (fnS (stA p 29)) 3 [] Value.none Value.none Value.none (.str A.k6.c11 696) none (.ref 398) Value.none 0)) (List.toArray []))
noncomputable def o_462 (p : Program) (A : At) (P : Params) : Obj := (Obj.mk (Value.type "tuple") none (Data.seq (List.toArray []) 0) (List.toArray []))
noncomputable def o_463 (p : Program) (A : At) (P : Params) : Obj := (Obj.mk Value.none none (Data.fields (List.toArray [])) (List.toArray []))
noncomputable def o_464 (p : Program) (A : At) (P : Params) : Obj := (Obj.mk Value.none none (Data.func (FuncData.mk A.k7.c7 A.k7.c7 (fnP (stA p 30)) (.stmts (fnB (stA p 30))) (fnS (stA p 30)) 0 [] Value.none Value.none Value.none Value.none none Value.none Value.none 0)) (List.toArray []))
noncomputable def o_465 (p : Program) (A : At) (P : Params) : Obj := (Obj.mk (Value.type "code") none (Data.fields (List.toArray [(.str A.k7.c7 706), (.str A.k7.c7 707), (.str A.k1.c7 708), (.int 146 0), (.int 1 0), (.int 0 0), (.int 0 0), (.int 3 0), (.ref 400), (.bool Bool.true), (.int 181 0), (.ref 401), Value.none, Value.none, Value.none, (.ref 402), (.int 709 0), (.int 146 0), (.str A.k1.c7 710)])) (List.toArray []))
noncomputable def o_466 (p : Program) (A : At) (P : Params) : Obj := (Obj.mk (Value.type "function") none (Data.func (FuncData.mk A.k7.c7 A.k7.c7 (fnP (stA p 30)) (.stmts (fnB (stA p 30))) (fnS (stA p 30)) 3 [] Value.none Value.none Value.none (.str A.k6.c11 696) none (.ref 403) Value.none 0)) (List.toArray []))
noncomputable def o_467 (p : Program) (A : At) (P : Params) : Obj := (Obj.mk (Value.type "tuple") none (Data.seq (List.toArray []) 0) (List.toArray []))
noncomputable def o_468 (p : Program) (A : At) (P : Params) : Obj := (Obj.mk Value.none none (Data.fields (List.toArray [])) (List.toArray []))
noncomputable def o_469 (p : Program) (A : At) (P : Params) : Obj := (Obj.mk Value.none none (Data.func (FuncData.mk A.k7.c8 A.k7.c8 (fnP (stA p 31)) (.stmts (fnB (stA p 31))) (fnS (stA p 31)) 0 [] Value.none Value.none Value.none Value.none none Value.none Value.none 0)) (List.toArray []))
noncomputable def o_470 (p : Program) (A : At) (P : Params) : Obj := (Obj.mk (Value.type "code") none (Data.fields (List.toArray [(.str A.k7.c8 712), (.str A.k7.c8 713), (.str A.k1.c7 714), (.int 173 0), (.int 1 0), (.int 0 0), (.int 0 0), (.int 3 0), (.ref 405), (.bool Bool.true), (.int 181 0), (.ref 406), Value.none, Value.none, Value.none, (.ref 407), (.int 715 0), (.int 173 0), (.str A.k1.c7 716)])) (List.toArray []))
noncomputable def o_471 (p : Program) (A : At) (P : Params) : Obj := (Obj.mk (Value.type "function") none (Data.func (FuncData.mk A.k7.c8 A.k7.c8 (fnP (stA p 31)) (.stmts (fnB (stA p 31))) (fnS (stA p 31)) 3 [] Value.none Value.none Value.none (.str A.k6.c11 696) none (.ref 408) Value.none 0)) (List.toArray []))
noncomputable def o_472 (p : Program) (A : At) (P : Params) : Obj := (Obj.mk (Value.type "tuple") none (Data.seq (List.toArray []) 0) (List.toArray []))
noncomputable def o_473 (p : Program) (A : At) (P : Params) : Obj := (Obj.mk Value.none none (Data.fields (List.toArray [])) (List.toArray []))
noncomputable def o_474 (p : Program) (A : At) (P : Params) : Obj := (Obj.mk Value.none none (Data.func (FuncData.mk A.k7.c9 A.k7.c9 (fnP (stA p 32)) (.stmts (fnB (stA p 32))) (fnS (stA p 32)) 0 [] Value.none Value.none Value.none Value.none none Value.none Value.none 0)) (List.toArray []))
noncomputable def o_475 (p : Program) (A : At) (P : Params) : Obj := (Obj.mk (Value.type "code") none (Data.fields (List.toArray [(.str A.k7.c9 718), (.str A.k7.c9 719), (.str A.k1.c7 720), (.int 191 0), (.int 1 0), (.int 0 0), (.int 0 0), (.int 3 0), (.ref 410), (.bool Bool.true), (.int 181 0), (.ref 411), Value.none, Value.none, Value.none, (.ref 412), (.int 721 0), (.int 191 0), (.str A.k1.c7 722)])) (List.toArray []))
noncomputable def o_476 (p : Program) (A : At) (P : Params) : Obj := (Obj.mk (Value.type "function") none (Data.func (FuncData.mk A.k7.c9 A.k7.c9 (fnP (stA p 32)) (.stmts (fnB (stA p 32))) (fnS (stA p 32)) 3 [] Value.none Value.none Value.none (.str A.k6.c11 696) none (.ref 413) Value.none 0)) (List.toArray []))
noncomputable def o_477 (p : Program) (A : At) (P : Params) : Obj := (Obj.mk (Value.type "tuple") none (Data.seq (List.toArray []) 0) (List.toArray []))
noncomputable def o_478 (p : Program) (A : At) (P : Params) : Obj := (Obj.mk Value.none none (Data.fields (List.toArray [])) (List.toArray []))
noncomputable def o_479 (p : Program) (A : At) (P : Params) : Obj := (Obj.mk Value.none none (Data.func (FuncData.mk A.k7.c10 A.k7.c10 (fnP (stA p 33)) (.stmts (fnB (stA p 33))) (fnS (stA p 33)) 0 [] Value.none Value.none Value.none Value.none none Value.none Value.none 0)) (List.toArray []))
noncomputable def o_480 (p : Program) (A : At) (P : Params) : Obj := (Obj.mk (Value.type "code") none (Data.fields (List.toArray [(.str A.k7.c10 724), (.str A.k7.c10 725), (.str A.k1.c7 726), (.int 208 0), (.int 1 0), (.int 0 0), (.int 0 0), (.int 3 0), (.ref 415), (.bool Bool.true), (.int 181 0), (.ref 416), Value.none, Value.none, Value.none, (.ref 417), (.int 727 0), (.int 208 0), (.str A.k1.c7 728)])) (List.toArray []))
noncomputable def o_481 (p : Program) (A : At) (P : Params) : Obj := (Obj.mk (Value.type "function") none (Data.func (FuncData.mk A.k7.c10 A.k7.c10 (fnP (stA p 33)) (.stmts (fnB (stA p 33))) (fnS (stA p 33)) 3 [] Value.none Value.none Value.none (.str A.k6.c11 696) none (.ref 418) Value.none 0)) (List.toArray []))
noncomputable def heap_46 (p : Program) (A : At) (P : Params) : Heap := (Heap.mk (Array.mk [(boot_o_0 P), (boot_o_1 P), (boot_o_2 P), (boot_o_3 P), (boot_o_4 P), (boot_o_5 P), (boot_o_6 P), (boot_o_7 P), (boot_o_8 P), (boot_o_9 P), (boot_o_10 P), (o_43 p A P), (o_44 p A P), (o_45 p A P), (o_46 p A P)]) (Life.mk [] [] [] 0 [] [] Bool.false (List.toArray []) [] 0 Bool.false Bool.false Bool.false 0 [2000, 10, 10] Bool.false 0 Bool.true [] [] 0 Bool.false))
noncomputable def heap_482 (p : Program) (A : At) (P : Params) : Heap := (Heap.mk (Array.mk [(boot_o_0 P), (boot_o_1 P), (boot_o_2 P), (o_411 p A P), (boot_o_4 P), (boot_o_5 P), (boot_o_6 P), (boot_o_7 P), (boot_o_8 P), (boot_o_9 P), (boot_o_10 P), (o_43 p A P), (o_412 p A P), (o_45 p A P), (o_46 p A P), (o_51 p A P), (o_52 p A P), (o_53 p A P), (o_54 p A P), (o_55 p A P), (o_56 p A P), (o_57 p A P), (o_58 p A P), (o_59 p A P), (o_60 p A P), (o_61 p A P), (o_62 p A P), (o_63 p A P), (o_64 p A P), (o_65 p A P), (o_66 p A P), (o_67 p A P), (o_68 p A P), (o_69 p A P), (o_70 p A P), (o_71 p A P), (o_72 p A P), (o_73 p A P), (o_74 p A P), (o_76 p A P), (o_77 p A P), (o_78 p A P), (o_79 p A P), (o_80 p A P), (o_81 p A P), (o_82 p A P), (o_83 p A P), (o_84 p A P), (o_87 p A P), (o_88 p A P), (o_89 p A P), (o_90 p A P), (o_91 p A P), (o_92 p A P), (o_93 p A P), (o_94 p A P), (o_95 p A P), (o_96 p A P), (o_97 p A P), (o_98 p A P), (o_99 p A P), (o_100 p A P), (o_101 p A P), (o_102 p A P), (o_103 p A P), (o_104 p A P), (o_105 p A P), (o_106 p A P), (o_107 p A P), (o_110 p A P), (o_111 p A P), (o_112 p A P), (o_113 p A P), (o_114 p A P), (o_115 p A P), (o_116 p A P), (o_117 p A P), (o_118 p A P), (o_119 p A P), (o_120 p A P), (o_121 p A P), (o_122 p A P), (o_123 p A P), (o_124 p A P), (o_125 p A P), (o_126 p A P), (o_127 p A P), (o_128 p A P), (o_129 p A P), (o_130 p A P), (o_131 p A P), (o_132 p A P), (o_133 p A P), (o_134 p A P), (o_135 p A P), (o_136 p A P), (o_137 p A P), (o_138 p A P), (o_139 p A P), (o_140 p A P), (o_141 p A P), (o_142 p A P), (o_143 p A P), (o_144 p A P), (o_145 p A P), (o_146 p A P), (o_147 p A P), (o_148 p A P), (o_149 p A P), (o_150 p A P), (o_151 p A P), (o_152 p A P), (o_153 p A P), (o_154 p A P), (o_155 p A P), (o_156 p A P), (o_157 p A P), (o_158 p A P), (o_159 p A P), (o_160 p A P), (o_161 p A P), (o_162 p A P), (o_163 p A P), (o_164 p A P), (o_165 p A P), (o_166 p A P), (o_167 p A P), (o_168 p A P), (o_169 p A P), (o_170 p A P), (o_171 p A P), (o_172 p A P), (o_175 p A P), (o_176 p A P), (o_177 p A P), (o_178 p A P), (o_179 p A P), (o_180 p A P), (o_181 p A P), (o_182 p A P), (o_183 p A P), (o_184 p A P), (o_185 p A P), (o_186 p A P), (o_187 p A P), (o_188 p A P), (o_189 p A P), (o_190 p A P), (o_191 p A P), (o_192 p A P), (o_193 p A P), (o_194 p A P), (o_195 p A P), (o_198 p A P), (o_199 p A P), (o_200 p A P), (o_201 p A P), (o_202 p A P), (o_203 p A P), (o_204 p A P), (o_205 p A P), (o_206 p A P), (o_207 p A P), (o_208 p A P), (o_209 p A P), (o_210 p A P), (o_211 p A P), (o_212 p A P), (o_213 p A P), (o_214 p A P), (o_215 p A P), (o_216 p A P), (o_217 p A P), (o_218 p A P), (o_221 p A P), (o_222 p A P), (o_223 p A P), (o_224 p A P), (o_225 p A P), (o_226 p A P), (o_227 p A P), (o_228 p A P), (o_229 p A P), (o_230 p A P), (o_231 p A P), (o_232 p A P), (o_233 p A P), (o_234 p A P), (o_235 p A P), (o_236 p A P), (o_237 p A P), (o_238 p A P), (o_239 p A P), (o_240 p A P), (o_241 p A P), (o_244 p A P), (o_245 p A P), (o_246 p A P), (o_247 p A P), (o_248 p A P), (o_249 p A P), (o_250 p A P), (o_251 p A P), (o_252 p A P), (o_253 p A P), (o_254 p A P), (o_255 p A P), (o_256 p A P), (o_257 p A P), (o_258 p A P), (o_259 p A P), (o_260 p A P), (o_261 p A P), (o_262 p A P), (o_263 p A P), (o_264 p A P), (o_267 p A P), (o_268 p A P), (o_269 p A P), (o_270 p A P), (o_271 p A P), (o_272 p A P), (o_273 p A P), (o_274 p A P), (o_275 p A P), (o_276 p A P), (o_277 p A P), (o_278 p A P), (o_279 p A P), (o_280 p A P), (o_281 p A P), (o_282 p A P), (o_283 p A P), (o_284 p A P), (o_285 p A P), (o_286 p A P), (o_287 p A P), (o_290 p A P), (o_291 p A P), (o_292 p A P), (o_293 p A P), (o_294 p A P), (o_295 p A P), (o_296 p A P), (o_297 p A P), (o_298 p A P), (o_299 p A P), (o_300 p A P), (o_301 p A P), (o_302 p A P), (o_303 p A P), (o_304 p A P), (o_305 p A P), (o_306 p A P), (o_307 p A P), (o_308 p A P), (o_309 p A P), (o_310 p A P), (o_313 p A P), (o_314 p A P), (o_315 p A P), (o_316 p A P), (o_317 p A P), (o_318 p A P), (o_319 p A P), (o_320 p A P), (o_321 p A P), (o_322 p A P), (o_323 p A P), (o_324 p A P), (o_325 p A P), (o_326 p A P), (o_327 p A P), (o_328 p A P), (o_329 p A P), (o_330 p A P), (o_331 p A P), (o_332 p A P), (o_333 p A P), (o_336 p A P), (o_337 p A P), (o_338 p A P), (o_339 p A P), (o_340 p A P), (o_341 p A P), (o_342 p A P), (o_343 p A P), (o_344 p A P), (o_345 p A P), (o_346 p A P), (o_347 p A P), (o_348 p A P), (o_349 p A P), (o_350 p A P), (o_351 p A P), (o_359 p A P), (o_353 p A P), (o_354 p A P), (o_355 p A P), (o_356 p A P), (o_360 p A P), (o_361 p A P), (o_362 p A P), (o_363 p A P), (o_364 p A P), (o_365 p A P), (o_366 p A P), (o_367 p A P), (o_368 p A P), (o_369 p A P), (o_370 p A P), (o_371 p A P), (o_372 p A P), (o_373 p A P), (o_374 p A P), (o_375 p A P), (o_376 p A P), (o_377 p A P), (o_378 p A P), (o_379 p A P), (o_380 p A P), (o_381 p A P), (o_382 p A P), (o_383 p A P), (o_384 p A P), (o_385 p A P), (o_386 p A P), (o_387 p A P), (o_388 p A P), (o_389 p A P), (o_390 p A P), (o_391 p A P), (o_392 p A P), (o_393 p A P), (o_394 p A P), (o_395 p A P), (o_396 p A P), (o_397 p A P), (o_398 p A P), (o_399 p A P), (o_400 p A P), (o_401 p A P), (o_402 p A P), (o_403 p A P), (o_404 p A P), (o_405 p A P), (o_406 p A P), (o_407 p A P), (o_408 p A P), (o_409 p A P), (o_410 p A P), (o_413 p A P), (o_414 p A P), (o_415 p A P), (o_416 p A P), (o_417 p A P), (o_418 p A P), (o_419 p A P), (o_420 p A P), (o_421 p A P), (o_422 p A P), (o_423 p A P), (o_424 p A P), (o_425 p A P), (o_426 p A P), (o_427 p A P), (o_428 p A P), (o_429 p A P), (o_430 p A P), (o_431 p A P), (o_432 p A P), (o_433 p A P), (o_434 p A P), (o_435 p A P), (o_436 p A P), (o_437 p A P), (o_438 p A P), (o_439 p A P), (o_440 p A P), (o_441 p A P), (o_442 p A P), (o_443 p A P), (o_444 p A P), (o_445 p A P), (o_446 p A P), (o_447 p A P), (o_448 p A P), (o_449 p A P), (o_450 p A P), (o_451 p A P), (o_452 p A P), (o_453 p A P), (o_454 p A P), (o_455 p A P), (o_456 p A P), (o_457 p A P), (o_458 p A P), (o_459 p A P), (o_460 p A P), (o_461 p A P), (o_462 p A P), (o_463 p A P), (o_464 p A P), (o_465 p A P), (o_466 p A P), (o_467 p A P), (o_468 p A P), (o_469 p A P), (o_470 p A P), (o_471 p A P), (o_472 p A P), (o_473 p A P), (o_474 p A P), (o_475 p A P), (o_476 p A P), (o_477 p A P), (o_478 p A P), (o_479 p A P), (o_480 p A P), (o_481 p A P)]) (Life.mk [] [] [] 0 [] [] Bool.false (List.toArray []) [] 0 Bool.false Bool.false Bool.false 0 [2000, 10, 10] Bool.false 0 Bool.true [] [] 0 Bool.false))
noncomputable def tree_107 (p : Program) (A : At) (P : Params) : BT := (.node (boot_o_0 P) (.node (boot_o_1 P) (.node (o_85 p A P) (.node (boot_o_7 P) (.node (o_51 p A P) (.node (o_67 p A P) (.node (o_102 p A P) .nil .nil) .nil) (.node (o_84 p A P) .nil .nil)) (.node (o_59 p A P) (.node (o_76 p A P) .nil .nil) (.node (o_94 p A P) .nil .nil))) (.node (o_43 p A P) (.node (o_55 p A P) (.node (o_71 p A P) (.node (o_106 p A P) .nil .nil) .nil) (.node (o_90 p A P) .nil .nil)) (.node (o_63 p A P) (.node (o_80 p A P) .nil .nil) (.node (o_98 p A P) .nil .nil)))) (.node (boot_o_5 P) (.node (boot_o_9 P) (.node (o_53 p A P) (.node (o_69 p A P) (.node (o_104 p A P) .nil .nil) .nil) (.node (o_88 p A P) .nil .nil)) (.node (o_61 p A P) (.node (o_78 p A P) .nil .nil) (.node (o_96 p A P) .nil .nil))) (.node (o_45 p A P) (.node (o_57 p A P) (.node (o_73 p A P) .nil .nil) (.node (o_92 p A P) .nil .nil)) (.node (o_65 p A P) (.node (o_82 p A P) .nil .nil) (.node (o_100 p A P) .nil .nil))))) (.node (boot_o_2 P) (.node (boot_o_4 P) (.node (boot_o_8 P) (.node (o_52 p A P) (.node (o_68 p A P) (.node (o_103 p A P) .nil .nil) .nil) (.node (o_87 p A P) .nil .nil)) (.node (o_60 p A P) (.node (o_77 p A P) .nil .nil) (.node (o_95 p A P) .nil .nil))) (.node (o_86 p A P) (.node (o_56 p A P) (.node (o_72 p A P) (.node (o_107 p A P) .nil .nil) .nil) (.node (o_91 p A P) .nil .nil)) (.node (o_64 p A P) (.node (o_81 p A P) .nil .nil) (.node (o_99 p A P) .nil .nil)))) (.node (boot_o_6 P) (.node (boot_o_10 P) (.node (o_54 p A P) (.node (o_70 p A P) (.node (o_105 p A P) .nil .nil) .nil) (.node (o_89 p A P) .nil .nil)) (.node (o_62 p A P) (.node (o_79 p A P) .nil .nil) (.node (o_97 p A P) .nil .nil))) (.node (o_46 p A P) (.node (o_58 p A P) (.node (o_74 p A P) .nil .nil) (.node (o_93 p A P) .nil .nil)) (.node (o_66 p A P) (.node (o_83 p A P) .nil .nil) (.node (o_101 p A P) .nil .nil))))))
noncomputable def tree_172 (p : Program) (A : At) (P : Params) : BT := (.node (boot_o_0 P) (.node (boot_o_1 P) (.node (o_108 p A P) (.node (boot_o_7 P) (.node (o_51 p A P) (.node (o_67 p A P) (.node (o_102 p A P) (.node (o_168 p A P) .nil .nil) .nil) (.node (o_136 p A P) .nil .nil)) (.node (o_84 p A P) (.node (o_120 p A P) .nil .nil) (.node (o_152 p A P) .nil .nil))) (.node (o_59 p A P) (.node (o_76 p A P) (.node (o_112 p A P) .nil .nil) (.node (o_144 p A P) .nil .nil)) (.node (o_94 p A P) (.node (o_128 p A P) .nil .nil) (.node (o_160 p A P) .nil .nil)))) (.node (o_43 p A P) (.node (o_55 p A P) (.node (o_71 p A P) (.node (o_106 p A P) (.node (o_172 p A P) .nil .nil) .nil) (.node (o_140 p A P) .nil .nil)) (.node (o_90 p A P) (.node (o_124 p A P) .nil .nil) (.node (o_156 p A P) .nil .nil))) (.node (o_63 p A P) (.node (o_80 p A P) (.node (o_116 p A P) .nil .nil) (.node (o_148 p A P) .nil .nil)) (.node (o_98 p A P) (.node (o_132 p A P) .nil .nil) (.node (o_164 p A P) .nil .nil))))) (.node (boot_o_5 P) (.node (boot_o_9 P) (.node (o_53 p A P) (.node (o_69 p A P) (.node (o_104 p A P) (.node (o_170 p A P) .nil .nil) .nil) (.node (o_138 p A P) .nil .nil)) (.node (o_88 p A P) (.node (o_122 p A P) .nil .nil) (.node (o_154 p A P) .nil .nil))) (.node (o_61 p A P) (.node (o_78 p A P) (.node (o_114 p A P) .nil .nil) (.node (o_146 p A P) .nil .nil)) (.node (o_96 p A P) (.node (o_130 p A P) .nil .nil) (.node (o_162 p A P) .nil .nil)))) (.node (o_45 p A P) (.node (o_57 p A P) (.node (o_73 p A P) (.node (o_110 p A P) .nil .nil) (.node (o_142 p A P) .nil .nil)) (.node (o_92 p A P) (.node (o_126 p A P) .nil .nil) (.node (o_158 p A P) .nil .nil))) (.node (o_65 p A P) (.node (o_82 p A P) (.node (o_118 p A P) .nil .nil) (.node (o_150 p A P) .nil .nil)) (.node (o_100 p A P) (.node (o_134 p A P) .nil .nil) (.node (o_166 p A P) .nil .nil)))))) (.node (boot_o_2 P) (.node (boot_o_4 P) (.node (boot_o_8 P) (.node (o_52 p A P) (.node (o_68 p A P) (.node (o_103 p A P) (.node (o_169 p A P) .nil .nil) .nil) (.node (o_137 p A P) .nil .nil)) (.node (o_87 p A P) (.node (o_121 p A P) .nil .nil) (.node (o_153 p A P) .nil .nil))) (.node (o_60 p A P) (.node (o_77 p A P) (.node (o_113 p A P) .nil .nil) (.node (o_145 p A P) .nil .nil)) (.node (o_95 p A P) (.node (o_129 p A P) .nil .nil) (.node (o_161 p A P) .nil .nil)))) (.node (o_109 p A P) (.node (o_56 p A P) (.node (o_72 p A P) (.node (o_107 p A P) .nil .nil) (.node (o_141 p A P) .nil .nil)) (.node (o_91 p A P) (.node (o_125 p A P) .nil .nil) (.node (o_157 p A P) .nil .nil))) (.node (o_64 p A P) (.node (o_81 p A P) (.node (o_117 p A P) .nil .nil) (.node (o_149 p A P) .nil .nil)) (.node (o_99 p A P) (.node (o_133 p A P) .nil .nil) (.node (o_165 p A P) .nil .nil))))) (.node (boot_o_6 P) (.node (boot_o_10 P) (.node (o_54 p A P) (.node (o_70 p A P) (.node (o_105 p A P) (.node (o_171 p A P) .nil .nil) .nil) (.node (o_139 p A P) .nil .nil)) (.node (o_89 p A P) (.node (o_123 p A P) .nil .nil) (.node (o_155 p A P) .nil .nil))) (.node (o_62 p A P) (.node (o_79 p A P) (.node (o_115 p A P) .nil .nil) (.node (o_147 p A P) .nil .nil)) (.node (o_97 p A P) (.node (o_131 p A P) .nil .nil) (.node (o_163 p A P) .nil .nil)))) (.node (o_46 p A P) (.node (o_58 p A P) (.node (o_74 p A P) (.node (o_111 p A P) .nil .nil) (.node (o_143 p A P) .nil .nil)) (.node (o_93 p A P) (.node (o_127 p A P) .nil .nil) (.node (o_159 p A P) .nil .nil))) (.node (o_66 p A P) (.node (o_83 p A P) (.node (o_119 p A P) .nil .nil) (.node (o_151 p A P) .nil .nil)) (.node (o_101 p A P) (.node (o_135 p A P) .nil .nil) (.node (o_167 p A P) .nil .nil)))))))
noncomputable def tree_195 (p : Program) (A : At) (P : Params) : BT := (.node (boot_o_0 P) (.node (boot_o_1 P) (.node (o_173 p A P) (.node (boot_o_7 P) (.node (o_51 p A P) (.node (o_67 p A P) (.node (o_102 p A P) (.node (o_168 p A P) .nil .nil) .nil) (.node (o_136 p A P) .nil .nil)) (.node (o_84 p A P) (.node (o_120 p A P) (.node (o_186 p A P) .nil .nil) .nil) (.node (o_152 p A P) .nil .nil))) (.node (o_59 p A P) (.node (o_76 p A P) (.node (o_112 p A P) (.node (o_178 p A P) .nil .nil) .nil) (.node (o_144 p A P) .nil .nil)) (.node (o_94 p A P) (.node (o_128 p A P) (.node (o_194 p A P) .nil .nil) .nil) (.node (o_160 p A P) .nil .nil)))) (.node (o_43 p A P) (.node (o_55 p A P) (.node (o_71 p A P) (.node (o_106 p A P) (.node (o_172 p A P) .nil .nil) .nil) (.node (o_140 p A P) .nil .nil)) (.node (o_90 p A P) (.node (o_124 p A P) (.node (o_190 p A P) .nil .nil) .nil) (.node (o_156 p A P) .nil .nil))) (.node (o_63 p A P) (.node (o_80 p A P) (.node (o_116 p A P) (.node (o_182 p A P) .nil .nil) .nil) (.node (o_148 p A P) .nil .nil)) (.node (o_98 p A P) (.node (o_132 p A P) .nil .nil) (.node (o_164 p A P) .nil .nil))))) (.node (boot_o_5 P) (.node (boot_o_9 P) (.node (o_53 p A P) (.node (o_69 p A P) (.node (o_104 p A P) (.node (o_170 p A P) .nil .nil) .nil) (.node (o_138 p A P) .nil .nil)) (.node (o_88 p A P) (.node (o_122 p A P) (.node (o_188 p A P) .nil .nil) .nil) (.node (o_154 p A P) .nil .nil))) (.node (o_61 p A P) (.node (o_78 p A P) (.node (o_114 p A P) (.node (o_180 p A P) .nil .nil) .nil) (.node (o_146 p A P) .nil .nil)) (.node (o_96 p A P) (.node (o_130 p A P) .nil .nil) (.node (o_162 p A P) .nil .nil)))) (.node (o_45 p A P) (.node (o_57 p A P) (.node (o_73 p A P) (.node (o_110 p A P) (.node (o_176 p A P) .nil .nil) .nil) (.node (o_142 p A P) .nil .nil)) (.node (o_92 p A P) (.node (o_126 p A P) (.node (o_192 p A P) .nil .nil) .nil) (.node (o_158 p A P) .nil .nil))) (.node (o_65 p A P) (.node (o_82 p A P) (.node (o_118 p A P) (.node (o_184 p A P) .nil .nil) .nil) (.node (o_150 p A P) .nil .nil)) (.node (o_100 p A P) (.node (o_134 p A P) .nil .nil) (.node (o_166 p A P) .nil .nil)))))) (.node (boot_o_2 P) (.node (boot_o_4 P) (.node (boot_o_8 P) (.node (o_52 p A P) (.node (o_68 p A P) (.node (o_103 p A P) (.node (o_169 p A P) .nil .nil) .nil) (.node (o_137 p A P) .nil .nil)) (.node (o_87 p A P) (.node (o_121 p A P) (.node (o_187 p A P) .nil .nil) .nil) (.node (o_153 p A P) .nil .nil))) (.node (o_60 p A P) (.node (o_77 p A P) (.node (o_113 p A P) (.node (o_179 p A P) .nil .nil) .nil) (.node (o_145 p A P) .nil .nil)) (.node (o_95 p A P) (.node (o_129 p A P) (.node (o_195 p A P) .nil .nil) .nil) (.node (o_161 p A P) .nil .nil)))) (.node (o_174 p A P) (.node (o_56 p A P) (.node (o_72 p A P) (.node (o_107 p A P) (.node (o_175 p A P) .nil .nil) .nil) (.node (o_141 p A P) .nil .nil)) (.node (o_91 p A P) (.node (o_125 p A P) (.node (o_191 p A P) .nil .nil) .nil) (.node (o_157 p A P) .nil .nil))) (.node (o_64 p A P) (.node (o_81 p A P) (.node (o_117 p A P) (.node (o_183 p A P) .nil .nil) .nil) (.node (o_149 p A P) .nil .nil)) (.node (o_99 p A P) (.node (o_133 p A P) .nil .nil) (.node (o_165 p A P) .nil .nil))))) (.node (boot_o_6 P) (.node (boot_o_10 P) (.node (o_54 p A P) (.node (o_70 p A P) (.node (o_105 p A P) (.node (o_171 p A P) .nil .nil) .nil) (.node (o_139 p A P) .nil .nil)) (.node (o_89 p A P) (.node (o_123 p A P) (.node (o_189 p A P) .nil .nil) .nil) (.node (o_155 p A P) .nil .nil))) (.node (o_62 p A P) (.node (o_79 p A P) (.node (o_115 p A P) (.node (o_181 p A P) .nil .nil) .nil) (.node (o_147 p A P) .nil .nil)) (.node (o_97 p A P) (.node (o_131 p A P) .nil .nil) (.node (o_163 p A P) .nil .nil)))) (.node (o_46 p A P) (.node (o_58 p A P) (.node (o_74 p A P) (.node (o_111 p A P) (.node (o_177 p A P) .nil .nil) .nil) (.node (o_143 p A P) .nil .nil)) (.node (o_93 p A P) (.node (o_127 p A P) (.node (o_193 p A P) .nil .nil) .nil) (.node (o_159 p A P) .nil .nil))) (.node (o_66 p A P) (.node (o_83 p A P) (.node (o_119 p A P) (.node (o_185 p A P) .nil .nil) .nil) (.node (o_151 p A P) .nil .nil)) (.node (o_101 p A P) (.node (o_135 p A P) .nil .nil) (.node (o_167 p A P) .nil .nil)))))))
noncomputable def tree_218 (p : Program) (A : At) (P : Params) : BT := (.node (boot_o_0 P) (.node (boot_o_1 P) (.node (o_196 p A P) (.node (boot_o_7 P) (.node (o_51 p A P) (.node (o_67 p A P) (.node (o_102 p A P) (.node (o_168 p A P) .nil .nil) .nil) (.node (o_136 p A P) (.node (o_204 p A P) .nil .nil) .nil)) (.node (o_84 p A P) (.node (o_120 p A P) (.node (o_186 p A P) .nil .nil) .nil) (.node (o_152 p A P) .nil .nil))) (.node (o_59 p A P) (.node (o_76 p A P) (.node (o_112 p A P) (.node (o_178 p A P) .nil .nil) .nil) (.node (o_144 p A P) (.node (o_212 p A P) .nil .nil) .nil)) (.node (o_94 p A P) (.node (o_128 p A P) (.node (o_194 p A P) .nil .nil) .nil) (.node (o_160 p A P) .nil .nil)))) (.node (o_43 p A P) (.node (o_55 p A P) (.node (o_71 p A P) (.node (o_106 p A P) (.node (o_172 p A P) .nil .nil) .nil) (.node (o_140 p A P) (.node (o_208 p A P) .nil .nil) .nil)) (.node (o_90 p A P) (.node (o_124 p A P) (.node (o_190 p A P) .nil .nil) .nil) (.node (o_156 p A P) .nil .nil))) (.node (o_63 p A P) (.node (o_80 p A P) (.node (o_116 p A P) (.node (o_182 p A P) .nil .nil) .nil) (.node (o_148 p A P) (.node (o_216 p A P) .nil .nil) .nil)) (.node (o_98 p A P) (.node (o_132 p A P) (.node (o_200 p A P) .nil .nil) .nil) (.node (o_164 p A P) .nil .nil))))) (.node (boot_o_5 P) (.node (boot_o_9 P) (.node (o_53 p A P) (.node (o_69 p A P) (.node (o_104 p A P) (.node (o_170 p A P) .nil .nil) .nil) (.node (o_138 p A P) (.node (o_206 p A P) .nil .nil) .nil)) (.node (o_88 p A P) (.node (o_122 p A P) (.node (o_188 p A P) .nil .nil) .nil) (.node (o_154 p A P) .nil .nil))) (.node (o_61 p A P) (.node (o_78 p A P) (.node (o_114 p A P) (.node (o_180 p A P) .nil .nil) .nil) (.node (o_146 p A P) (.node (o_214 p A P) .nil .nil) .nil)) (.node (o_96 p A P) (.node (o_130 p A P) (.node (o_198 p A P) .nil .nil) .nil) (.node (o_162 p A P) .nil .nil)))) (.node (o_45 p A P) (.node (o_57 p A P) (.node (o_73 p A P) (.node (o_110 p A P) (.node (o_176 p A P) .nil .nil) .nil) (.node (o_142 p A P) (.node (o_210 p A P) .nil .nil) .nil)) (.node (o_92 p A P) (.node (o_126 p A P) (.node (o_192 p A P) .nil .nil) .nil) (.node (o_158 p A P) .nil .nil))) (.node (o_65 p A P) (.node (o_82 p A P) (.node (o_118 p A P) (.node (o_184 p A P) .nil .nil) .nil) (.node (o_150 p A P) (.node (o_218 p A P) .nil .nil) .nil)) (.node (o_100 p A P) (.node (o_134 p A P) (.node (o_202 p A P) .nil .nil) .nil) (.node (o_166 p A P) .nil .nil)))))) (.node (boot_o_2 P) (.node (boot_o_4 P) (.node (boot_o_8 P) (.node (o_52 p A P) (.node (o_68 p A P) (.node (o_103 p A P) (.node (o_169 p A P) .nil .nil) .nil) (.node (o_137 p A P) (.node (o_205 p A P) .nil .nil) .nil)) (.node (o_87 p A P) (.node (o_121 p A P) (.node (o_187 p A P) .nil .nil) .nil) (.node (o_153 p A P) .nil .nil))) (.node (o_60 p A P) (.node (o_77 p A P) (.node (o_113 p A P) (.node (o_179 p A P) .nil .nil) .nil) (.node (o_145 p A P) (.node (o_213 p A P) .nil .nil) .nil)) (.node (o_95 p A P) (.node (o_129 p A P) (.node (o_195 p A P) .nil .nil) .nil) (.node (o_161 p A P) .nil .nil)))) (.node (o_197 p A P) (.node (o_56 p A P) (.node (o_72 p A P) (.node (o_107 p A P) (.node (o_175 p A P) .nil .nil) .nil) (.node (o_141 p A P) (.node (o_209 p A P) .nil .nil) .nil)) (.node (o_91 p A P) (.node (o_125 p A P) (.node (o_191 p A P) .nil .nil) .nil) (.node (o_157 p A P) .nil .nil))) (.node (o_64 p A P) (.node (o_81 p A P) (.node (o_117 p A P) (.node (o_183 p A P) .nil .nil) .nil) (.node (o_149 p A P) (.node (o_217 p A P) .nil .nil) .nil)) (.node (o_99 p A P) (.node (o_133 p A P) (.node (o_201 p A P) .nil .nil) .nil) (.node (o_165 p A P) .nil .nil))))) (.node (boot_o_6 P) (.node (boot_o_10 P) (.node (o_54 p A P) (.node (o_70 p A P) (.node (o_105 p A P) (.node (o_171 p A P) .nil .nil) .nil) (.node (o_139 p A P) (.node (o_207 p A P) .nil .nil) .nil)) (.node (o_89 p A P) (.node (o_123 p A P) (.node (o_189 p A P) .nil .nil) .nil) (.node (o_155 p A P) .nil .nil))) (.node (o_62 p A P) (.node (o_79 p A P) (.node (o_115 p A P) (.node (o_181 p A P) .nil .nil) .nil) (.node (o_147 p A P) (.node (o_215 p A P) .nil .nil) .nil)) (.node (o_97 p A P) (.node (o_131 p A P) (.node (o_199 p A P) .nil .nil) .nil) (.node (o_163 p A P) .nil .nil)))) (.node (o_46 p A P) (.node (o_58 p A P) (.node (o_74 p A P) (.node (o_111 p A P) (.node (o_177 p A P) .nil .nil) .nil) (.node (o_143 p A P) (.node (o_211 p A P) .nil .nil) .nil)) (.node (o_93 p A P) (.node (o_127 p A P) (.node (o_193 p A P) .nil .nil) .nil) (.node (o_159 p A P) .nil .nil))) (.node (o_66 p A P) (.node (o_83 p A P) (.node (o_119 p A P) (.node (o_185 p A P) .nil .nil) .nil) (.node (o_151 p A P) .nil .nil)) (.node (o_101 p A P) (.node (o_135 p A P) (.node (o_203 p A P) .nil .nil) .nil) (.node (o_167 p A P) .nil .nil)))))))
noncomputable def tree_241 (p : Program) (A : At) (P : Params) : BT := (.node (boot_o_0 P) (.node (boot_o_1 P) (.node (o_219 p A P) (.node (boot_o_7 P) (.node (o_51 p A P) (.node (o_67 p A P) (.node (o_102 p A P) (.node (o_168 p A P) .nil .nil) (.node (o_238 p A P) .nil .nil)) (.node (o_136 p A P) (.node (o_204 p A P) .nil .nil) .nil)) (.node (o_84 p A P) (.node (o_120 p A P) (.node (o_186 p A P) .nil .nil) .nil) (.node (o_152 p A P) (.node (o_222 p A P) .nil .nil) .nil))) (.node (o_59 p A P) (.node (o_76 p A P) (.node (o_112 p A P) (.node (o_178 p A P) .nil .nil) .nil) (.node (o_144 p A P) (.node (o_212 p A P) .nil .nil) .nil)) (.node (o_94 p A P) (.node (o_128 p A P) (.node (o_194 p A P) .nil .nil) .nil) (.node (o_160 p A P) (.node (o_230 p A P) .nil .nil) .nil)))) (.node (o_43 p A P) (.node (o_55 p A P) (.node (o_71 p A P) (.node (o_106 p A P) (.node (o_172 p A P) .nil .nil) .nil) (.node (o_140 p A P) (.node (o_208 p A P) .nil .nil) .nil)) (.node (o_90 p A P) (.node (o_124 p A P) (.node (o_190 p A P) .nil .nil) .nil) (.node (o_156 p A P) (.node (o_226 p A P) .nil .nil) .nil))) (.node (o_63 p A P) (.node (o_80 p A P) (.node (o_116 p A P) (.node (o_182 p A P) .nil .nil) .nil) (.node (o_148 p A P) (.node (o_216 p A P) .nil .nil) .nil)) (.node (o_98 p A P) (.node (o_132 p A P) (.node (o_200 p A P) .nil .nil) .nil) (.node (o_164 p A P) (.node (o_234 p A P) .nil .nil) .nil))))) (.node (boot_o_5 P) (.node (boot_o_9 P) (.node (o_53 p A P) (.node (o_69 p A P) (.node (o_104 p A P) (.node (o_170 p A P) .nil .nil) (.node (o_240 p A P) .nil .nil)) (.node (o_138 p A P) (.node (o_206 p A P) .nil .nil) .nil)) (.node (o_88 p A P) (.node (o_122 p A P) (.node (o_188 p A P) .nil .nil) .nil) (.node (o_154 p A P) (.node (o_224 p A P) .nil .nil) .nil))) (.node (o_61 p A P) (.node (o_78 p A P) (.node (o_114 p A P) (.node (o_180 p A P) .nil .nil) .nil) (.node (o_146 p A P) (.node (o_214 p A P) .nil .nil) .nil)) (.node (o_96 p A P) (.node (o_130 p A P) (.node (o_198 p A P) .nil .nil) .nil) (.node (o_162 p A P) (.node (o_232 p A P) .nil .nil) .nil)))) (.node (o_45 p A P) (.node (o_57 p A P) (.node (o_73 p A P) (.node (o_110 p A P) (.node (o_176 p A P) .nil .nil) .nil) (.node (o_142 p A P) (.node (o_210 p A P) .nil .nil) .nil)) (.node (o_92 p A P) (.node (o_126 p A P) (.node (o_192 p A P) .nil .nil) .nil) (.node (o_158 p A P) (.node (o_228 p A P) .nil .nil) .nil))) (.node (o_65 p A P) (.node (o_82 p A P) (.node (o_118 p A P) (.node (o_184 p A P) .nil .nil) .nil) (.node (o_150 p A P) (.node (o_218 p A P) .nil .nil) .nil)) (.node (o_100 p A P) (.node (o_134 p A P) (.node (o_202 p A P) .nil .nil) .nil) (.node (o_166 p A P) (.node (o_236 p A P) .nil .nil) .nil)))))) (.node (boot_o_2 P) (.node (boot_o_4 P) (.node (boot_o_8 P) (.node (o_52 p A P) (.node (o_68 p A P) (.node (o_103 p A P) (.node (o_169 p A P) .nil .nil) (.node (o_239 p A P) .nil .nil)) (.node (o_137 p A P) (.node (o_205 p A P) .nil .nil) .nil)) (.node (o_87 p A P) (.node (o_121 p A P) (.node (o_187 p A P) .nil .nil) .nil) (.node (o_153 p A P) (.node (o_223 p A P) .nil .nil) .nil))) (.node (o_60 p A P) (.node (o_77 p A P) (.node (o_113 p A P) (.node (o_179 p A P) .nil .nil) .nil) (.node (o_145 p A P) (.node (o_213 p A P) .nil .nil) .nil)) (.node (o_95 p A P) (.node (o_129 p A P) (.node (o_195 p A P) .nil .nil) .nil) (.node (o_161 p A P) (.node (o_231 p A P) .nil .nil) .nil)))) (.node (o_220 p A P) (.node (o_56 p A P) (.node (o_72 p A P) (.node (o_107 p A P) (.node (o_175 p A P) .nil .nil) .nil) (.node (o_141 p A P) (.node (o_209 p A P) .nil .nil) .nil)) (.node (o_91 p A P) (.node (o_125 p A P) (.node (o_191 p A P) .nil .nil) .nil) (.node (o_157 p A P) (.node (o_227 p A P) .nil .nil) .nil))) (.node (o_64 p A P) (.node (o_81 p A P) (.node (o_117 p A P) (.node (o_183 p A P) .nil .nil) .nil) (.node (o_149 p A P) (.node (o_217 p A P) .nil .nil) .nil)) (.node (o_99 p A P) (.node (o_133 p A P) (.node (o_201 p A P) .nil .nil) .nil) (.node (o_165 p A P) (.node (o_235 p A P) .nil .nil) .nil))))) (.node (boot_o_6 P) (.node (boot_o_10 P) (.node (o_54 p A P) (.node (o_70 p A P) (.node (o_105 p A P) (.node (o_171 p A P) .nil .nil) (.node (o_241 p A P) .nil .nil)) (.node (o_139 p A P) (.node (o_207 p A P) .nil .nil) .nil)) (.node (o_89 p A P) (.node (o_123 p A P) (.node (o_189 p A P) .nil .nil) .nil) (.node (o_155 p A P) (.node (o_225 p A P) .nil .nil) .nil))) (.node (o_62 p A P) (.node (o_79 p A P) (.node (o_115 p A P) (.node (o_181 p A P) .nil .nil) .nil) (.node (o_147 p A P) (.node (o_215 p A P) .nil .nil) .nil)) (.node (o_97 p A P) (.node (o_131 p A P) (.node (o_199 p A P) .nil .nil) .nil) (.node (o_163 p A P) (.node (o_233 p A P) .nil .nil) .nil)))) (.node (o_46 p A P) (.node (o_58 p A P) (.node (o_74 p A P) (.node (o_111 p A P) (.node (o_177 p A P) .nil .nil) .nil) (.node (o_143 p A P) (.node (o_211 p A P) .nil .nil) .nil)) (.node (o_93 p A P) (.node (o_127 p A P) (.node (o_193 p A P) .nil .nil) .nil) (.node (o_159 p A P) (.node (o_229 p A P) .nil .nil) .nil))) (.node (o_66 p A P) (.node (o_83 p A P) (.node (o_119 p A P) (.node (o_185 p A P) .nil .nil) .nil) (.node (o_151 p A P) (.node (o_221 p A P) .nil .nil) .nil)) (.node (o_101 p A P) (.node (o_135 p A P) (.node (o_203 p A P) .nil .nil) .nil) (.node (o_167 p A P) (.node (o_237 p A P) .nil .nil) .nil)))))))
noncomputable def tree_264 (p : Program) (A : At) (P : Params) : BT := (.node (boot_o_0 P) (.node (boot_o_1 P) (.node (o_242 p A P) (.node (boot_o_7 P) (.node (o_51 p A P) (.node (o_67 p A P) (.node (o_102 p A P) (.node (o_168 p A P) .nil .nil) (.node (o_238 p A P) .nil .nil)) (.node (o_136 p A P) (.node (o_204 p A P) .nil .nil) .nil)) (.node (o_84 p A P) (.node (o_120 p A P) (.node (o_186 p A P) .nil .nil) (.node (o_256 p A P) .nil .nil)) (.node (o_152 p A P) (.node (o_222 p A P) .nil .nil) .nil))) (.node (o_59 p A P) (.node (o_76 p A P) (.node (o_112 p A P) (.node (o_178 p A P) .nil .nil) (.node (o_248 p A P) .nil .nil)) (.node (o_144 p A P) (.node (o_212 p A P) .nil .nil) .nil)) (.node (o_94 p A P) (.node (o_128 p A P) (.node (o_194 p A P) .nil .nil) (.node (o_264 p A P) .nil .nil)) (.node (o_160 p A P) (.node (o_230 p A P) .nil .nil) .nil)))) (.node (o_43 p A P) (.node (o_55 p A P) (.node (o_71 p A P) (.node (o_106 p A P) (.node (o_172 p A P) .nil .nil) (.node (o_244 p A P) .nil .nil)) (.node (o_140 p A P) (.node (o_208 p A P) .nil .nil) .nil)) (.node (o_90 p A P) (.node (o_124 p A P) (.node (o_190 p A P) .nil .nil) (.node (o_260 p A P) .nil .nil)) (.node (o_156 p A P) (.node (o_226 p A P) .nil .nil) .nil))) (.node (o_63 p A P) (.node (o_80 p A P) (.node (o_116 p A P) (.node (o_182 p A P) .nil .nil) (.node (o_252 p A P) .nil .nil)) (.node (o_148 p A P) (.node (o_216 p A P) .nil .nil) .nil)) (.node (o_98 p A P) (.node (o_132 p A P) (.node (o_200 p A P) .nil .nil) .nil) (.node (o_164 p A P) (.node (o_234 p A P) .nil .nil) .nil))))) (.node (boot_o_5 P) (.node (boot_o_9 P) (.node (o_53 p A P) (.node (o_69 p A P) (.node (o_104 p A P) (.node (o_170 p A P) .nil .nil) (.node (o_240 p A P) .nil .nil)) (.node (o_138 p A P) (.node (o_206 p A P) .nil .nil) .nil)) (.node (o_88 p A P) (.node (o_122 p A P) (.node (o_188 p A P) .nil .nil) (.node (o_258 p A P) .nil .nil)) (.node (o_154 p A P) (.node (o_224 p A P) .nil .nil) .nil))) (.node (o_61 p A P) (.node (o_78 p A P) (.node (o_114 p A P) (.node (o_180 p A P) .nil .nil) (.node (o_250 p A P) .nil .nil)) (.node (o_146 p A P) (.node (o_214 p A P) .nil .nil) .nil)) (.node (o_96 p A P) (.node (o_130 p A P) (.node (o_198 p A P) .nil .nil) .nil) (.node (o_162 p A P) (.node (o_232 p A P) .nil .nil) .nil)))) (.node (o_45 p A P) (.node (o_57 p A P) (.node (o_73 p A P) (.node (o_110 p A P) (.node (o_176 p A P) .nil .nil) (.node (o_246 p A P) .nil .nil)) (.node (o_142 p A P) (.node (o_210 p A P) .nil .nil) .nil)) (.node (o_92 p A P) (.node (o_126 p A P) (.node (o_192 p A P) .nil .nil) (.node (o_262 p A P) .nil .nil)) (.node (o_158 p A P) (.node (o_228 p A P) .nil .nil) .nil))) (.node (o_65 p A P) (.node (o_82 p A P) (.node (o_118 p A P) (.node (o_184 p A P) .nil .nil) (.node (o_254 p A P) .nil .nil)) (.node (o_150 p A P) (.node (o_218 p A P) .nil .nil) .nil)) (.node (o_100 p A P) (.node (o_134 p A P) (.node (o_202 p A P) .nil .nil) .nil) (.node (o_166 p A P) (.node (o_236 p A P) .nil .nil) .nil)))))) (.node (boot_o_2 P) (.node (boot_o_4 P) (.node (boot_o_8 P) (.node (o_52 p A P) (.node (o_68 p A P) (.node (o_103 p A P) (.node (o_169 p A P) .nil .nil) (.node (o_239 p A P) .nil .nil)) (.node (o_137 p A P) (.node (o_205 p A P) .nil .nil) .nil)) (.node (o_87 p A P) (.node (o_121 p A P) (.node (o_187 p A P) .nil .nil) (.node (o_257 p A P) .nil .nil)) (.node (o_153 p A P) (.node (o_223 p A P) .nil .nil) .nil))) (.node (o_60 p A P) (.node (o_77 p A P) (.node (o_113 p A P) (.node (o_179 p A P) .nil .nil) (.node (o_249 p A P) .nil .nil)) (.node (o_145 p A P) (.node (o_213 p A P) .nil .nil) .nil)) (.node (o_95 p A P) (.node (o_129 p A P) (.node (o_195 p A P) .nil .nil) .nil) (.node (o_161 p A P) (.node (o_231 p A P) .nil .nil) .nil)))) (.node (o_243 p A P) (.node (o_56 p A P) (.node (o_72 p A P) (.node (o_107 p A P) (.node (o_175 p A P) .nil .nil) (.node (o_245 p A P) .nil .nil)) (.node (o_141 p A P) (.node (o_209 p A P) .nil .nil) .nil)) (.node (o_91 p A P) (.node (o_125 p A P) (.node (o_191 p A P) .nil .nil) (.node (o_261 p A P) .nil .nil)) (.node (o_157 p A P) (.node (o_227 p A P) .nil .nil) .nil))) (.node (o_64 p A P) (.node (o_81 p A P) (.node (o_117 p A P) (.node (o_183 p A P) .nil .nil) (.node (o_253 p A P) .nil .nil)) (.node (o_149 p A P) (.node (o_217 p A P) .nil .nil) .nil)) (.node (o_99 p A P) (.node (o_133 p A P) (.node (o_201 p A P) .nil .nil) .nil) (.node (o_165 p A P) (.node (o_235 p A P) .nil .nil) .nil))))) (.node (boot_o_6 P) (.node (boot_o_10 P) (.node (o_54 p A P) (.node (o_70 p A P) (.node (o_105 p A P) (.node (o_171 p A P) .nil .nil) (.node (o_241 p A P) .nil .nil)) (.node (o_139 p A P) (.node (o_207 p A P) .nil .nil) .nil)) (.node (o_89 p A P) (.node (o_123 p A P) (.node (o_189 p A P) .nil .nil) (.node (o_259 p A P) .nil .nil)) (.node (o_155 p A P) (.node (o_225 p A P) .nil .nil) .nil))) (.node (o_62 p A P) (.node (o_79 p A P) (.node (o_115 p A P) (.node (o_181 p A P) .nil .nil) (.node (o_251 p A P) .nil .nil)) (.node (o_147 p A P) (.node (o_215 p A P) .nil .nil) .nil)) (.node (o_97 p A P) (.node (o_131 p A P) (.node (o_199 p A P) .nil .nil) .nil) (.node (o_163 p A P) (.node (o_233 p A P) .nil .nil) .nil)))) (.node (o_46 p A P) (.node (o_58 p A P) (.node (o_74 p A P) (.node (o_111 p A P) (.node (o_177 p A P) .nil .nil) (.node (o_247 p A P) .nil .nil)) (.node (o_143 p A P) (.node (o_211 p A P) .nil .nil) .nil)) (.node (o_93 p A P) (.node (o_127 p A P) (.node (o_193 p A P) .nil .nil) (.node (o_263 p A P) .nil .nil)) (.node (o_159 p A P) (.node (o_229 p A P) .nil .nil) .nil))) (.node (o_66 p A P) (.node (o_83 p A P) (.node (o_119 p A P) (.node (o_185 p A P) .nil .nil) (.node (o_255 p A P) .nil .nil)) (.node (o_151 p A P) (.node (o_221 p A P) .nil .nil) .nil)) (.node (o_101 p A P) (.node (o_135 p A P) (.node (o_203 p A P) .nil .nil) .nil) (.node (o_167 p A P) (.node (o_237 p A P) .nil .nil) .nil)))))))
noncomputable def tree_287 (p : Program) (A : At) (P : Params) : BT := (.node (boot_o_0 P) (.node (boot_o_1 P) (.node (o_265 p A P) (.node (boot_o_7 P) (.node (o_51 p A P) (.node (o_67 p A P) (.node (o_102 p A P) (.node (o_168 p A P) .nil .nil) (.node (o_238 p A P) .nil .nil)) (.node (o_136 p A P) (.node (o_204 p A P) .nil .nil) (.node (o_274 p A P) .nil .nil))) (.node (o_84 p A P) (.node (o_120 p A P) (.node (o_186 p A P) .nil .nil) (.node (o_256 p A P) .nil .nil)) (.node (o_152 p A P) (.node (o_222 p A P) .nil .nil) .nil))) (.node (o_59 p A P) (.node (o_76 p A P) (.node (o_112 p A P) (.node (o_178 p A P) .nil .nil) (.node (o_248 p A P) .nil .nil)) (.node (o_144 p A P) (.node (o_212 p A P) .nil .nil) (.node (o_282 p A P) .nil .nil))) (.node (o_94 p A P) (.node (o_128 p A P) (.node (o_194 p A P) .nil .nil) (.node (o_264 p A P) .nil .nil)) (.node (o_160 p A P) (.node (o_230 p A P) .nil .nil) .nil)))) (.node (o_43 p A P) (.node (o_55 p A P) (.node (o_71 p A P) (.node (o_106 p A P) (.node (o_172 p A P) .nil .nil) (.node (o_244 p A P) .nil .nil)) (.node (o_140 p A P) (.node (o_208 p A P) .nil .nil) (.node (o_278 p A P) .nil .nil))) (.node (o_90 p A P) (.node (o_124 p A P) (.node (o_190 p A P) .nil .nil) (.node (o_260 p A P) .nil .nil)) (.node (o_156 p A P) (.node (o_226 p A P) .nil .nil) .nil))) (.node (o_63 p A P) (.node (o_80 p A P) (.node (o_116 p A P) (.node (o_182 p A P) .nil .nil) (.node (o_252 p A P) .nil .nil)) (.node (o_148 p A P) (.node (o_216 p A P) .nil .nil) (.node (o_286 p A P) .nil .nil))) (.node (o_98 p A P) (.node (o_132 p A P) (.node (o_200 p A P) .nil .nil) (.node (o_270 p A P) .nil .nil)) (.node (o_164 p A P) (.node (o_234 p A P) .nil .nil) .nil))))) (.node (boot_o_5 P) (.node (boot_o_9 P) (.node (o_53 p A P) (.node (o_69 p A P) (.node (o_104 p A P) (.node (o_170 p A P) .nil .nil) (.node (o_240 p A P) .nil .nil)) (.node (o_138 p A P) (.node (o_206 p A P) .nil .nil) (.node (o_276 p A P) .nil .nil))) (.node (o_88 p A P) (.node (o_122 p A P) (.node (o_188 p A P) .nil .nil) (.node (o_258 p A P) .nil .nil)) (.node (o_154 p A P) (.node (o_224 p A P) .nil .nil) .nil))) (.node (o_61 p A P) (.node (o_78 p A P) (.node (o_114 p A P) (.node (o_180 p A P) .nil .nil) (.node (o_250 p A P) .nil .nil)) (.node (o_146 p A P) (.node (o_214 p A P) .nil .nil) (.node (o_284 p A P) .nil .nil))) (.node (o_96 p A P) (.node (o_130 p A P) (.node (o_198 p A P) .nil .nil) (.node (o_268 p A P) .nil .nil)) (.node (o_162 p A P) (.node (o_232 p A P) .nil .nil) .nil)))) (.node (o_45 p A P) (.node (o_57 p A P) (.node (o_73 p A P) (.node (o_110 p A P) (.node (o_176 p A P) .nil .nil) (.node (o_246 p A P) .nil .nil)) (.node (o_142 p A P) (.node (o_210 p A P) .nil .nil) (.node (o_280 p A P) .nil .nil))) (.node (o_92 p A P) (.node (o_126 p A P) (.node (o_192 p A P) .nil .nil) (.node (o_262 p A P) .nil .nil)) (.node (o_158 p A P) (.node (o_228 p A P) .nil .nil) .nil))) (.node (o_65 p A P) (.node (o_82 p A P) (.node (o_118 p A P) (.node (o_184 p A P) .nil .nil) (.node (o_254 p A P) .nil .nil)) (.node (o_150 p A P) (.node (o_218 p A P) .nil .nil) .nil)) (.node (o_100 p A P) (.node (o_134 p A P) (.node (o_202 p A P) .nil .nil) (.node (o_272 p A P) .nil .nil)) (.node (o_166 p A P) (.node (o_236 p A P) .nil .nil) .nil)))))) (.node (boot_o_2 P) (.node (boot_o_4 P) (.node (boot_o_8 P) (.node (o_52 p A P) (.node (o_68 p A P) (.node (o_103 p A P) (.node (o_169 p A P) .nil .nil) (.node (o_239 p A P) .nil .nil)) (.node (o_137 p A P) (.node (o_205 p A P) .nil .nil) (.node (o_275 p A P) .nil .nil))) (.node (o_87 p A P) (.node (o_121 p A P) (.node (o_187 p A P) .nil .nil) (.node (o_257 p A P) .nil .nil)) (.node (o_153 p A P) (.node (o_223 p A P) .nil .nil) .nil))) (.node (o_60 p A P) (.node (o_77 p A P) (.node (o_113 p A P) (.node (o_179 p A P) .nil .nil) (.node (o_249 p A P) .nil .nil)) (.node (o_145 p A P) (.node (o_213 p A P) .nil .nil) (.node (o_283 p A P) .nil .nil))) (.node (o_95 p A P) (.node (o_129 p A P) (.node (o_195 p A P) .nil .nil) (.node (o_267 p A P) .nil .nil)) (.node (o_161 p A P) (.node (o_231 p A P) .nil .nil) .nil)))) (.node (o_266 p A P) (.node (o_56 p A P) (.node (o_72 p A P) (.node (o_107 p A P) (.node (o_175 p A P) .nil .nil) (.node (o_245 p A P) .nil .nil)) (.node (o_141 p A P) (.node (o_209 p A P) .nil .nil) (.node (o_279 p A P) .nil .nil))) (.node (o_91 p A P) (.node (o_125 p A P) (.node (o_191 p A P) .nil .nil) (.node (o_261 p A P) .nil .nil)) (.node (o_157 p A P) (.node (o_227 p A P) .nil .nil) .nil))) (.node (o_64 p A P) (.node (o_81 p A P) (.node (o_117 p A P) (.node (o_183 p A P) .nil .nil) (.node (o_253 p A P) .nil .nil)) (.node (o_149 p A P) (.node (o_217 p A P) .nil .nil) (.node (o_287 p A P) .nil .nil))) (.node (o_99 p A P) (.node (o_133 p A P) (.node (o_201 p A P) .nil .nil) (.node (o_271 p A P) .nil .nil)) (.node (o_165 p A P) (.node (o_235 p A P) .nil .nil) .nil))))) (.node (boot_o_6 P) (.node (boot_o_10 P) (.node (o_54 p A P) (.node (o_70 p A P) (.node (o_105 p A P) (.node (o_171 p A P) .nil .nil) (.node (o_241 p A P) .nil .nil)) (.node (o_139 p A P) (.node (o_207 p A P) .nil .nil) (.node (o_277 p A P) .nil .nil))) (.node (o_89 p A P) (.node (o_123 p A P) (.node (o_189 p A P) .nil .nil) (.node (o_259 p A P) .nil .nil)) (.node (o_155 p A P) (.node (o_225 p A P) .nil .nil) .nil))) (.node (o_62 p A P) (.node (o_79 p A P) (.node (o_115 p A P) (.node (o_181 p A P) .nil .nil) (.node (o_251 p A P) .nil .nil)) (.node (o_147 p A P) (.node (o_215 p A P) .nil .nil) (.node (o_285 p A P) .nil .nil))) (.node (o_97 p A P) (.node (o_131 p A P) (.node (o_199 p A P) .nil .nil) (.node (o_269 p A P) .nil .nil)) (.node (o_163 p A P) (.node (o_233 p A P) .nil .nil) .nil)))) (.node (o_46 p A P) (.node (o_58 p A P) (.node (o_74 p A P) (.node (o_111 p A P) (.node (o_177 p A P) .nil .nil) (.node (o_247 p A P) .nil .nil)) (.node (o_143 p A P) (.node (o_211 p A P) .nil .nil) (.node (o_281 p A P) .nil .nil))) (.node (o_93 p A P) (.node (o_127 p A P) (.node (o_193 p A P) .nil .nil) (.node (o_263 p A P) .nil .nil)) (.node (o_159 p A P) (.node (o_229 p A P) .nil .nil) .nil))) (.node (o_66 p A P) (.node (o_83 p A P) (.node (o_119 p A P) (.node (o_185 p A P) .nil .nil) (.node (o_255 p A P) .nil .nil)) (.node (o_151 p A P) (.node (o_221 p A P) .nil .nil) .nil)) (.node (o_101 p A P) (.node (o_135 p A P) (.node (o_203 p A P) .nil .nil) (.node (o_273 p A P) .nil .nil)) (.node (o_167 p A P) (.node (o_237 p A P) .nil .nil) .nil)))))))
noncomputable def tree_310 (p : Program) (A : At) (P : Params) : BT := (.node (boot_o_0 P) (.node (boot_o_1 P) (.node (o_288 p A P) (.node (boot_o_7 P) (.node (o_51 p A P) (.node (o_67 p A P) (.node (o_102 p A P) (.node (o_168 p A P) (.node (o_308 p A P) .nil .nil) .nil) (.node (o_238 p A P) .nil .nil)) (.node (o_136 p A P) (.node (o_204 p A P) .nil .nil) (.node (o_274 p A P) .nil .nil))) (.node (o_84 p A P) (.node (o_120 p A P) (.node (o_186 p A P) .nil .nil) (.node (o_256 p A P) .nil .nil)) (.node (o_152 p A P) (.node (o_222 p A P) .nil .nil) (.node (o_292 p A P) .nil .nil)))) (.node (o_59 p A P) (.node (o_76 p A P) (.node (o_112 p A P) (.node (o_178 p A P) .nil .nil) (.node (o_248 p A P) .nil .nil)) (.node (o_144 p A P) (.node (o_212 p A P) .nil .nil) (.node (o_282 p A P) .nil .nil))) (.node (o_94 p A P) (.node (o_128 p A P) (.node (o_194 p A P) .nil .nil) (.node (o_264 p A P) .nil .nil)) (.node (o_160 p A P) (.node (o_230 p A P) .nil .nil) (.node (o_300 p A P) .nil .nil))))) (.node (o_43 p A P) (.node (o_55 p A P) (.node (o_71 p A P) (.node (o_106 p A P) (.node (o_172 p A P) .nil .nil) (.node (o_244 p A P) .nil .nil)) (.node (o_140 p A P) (.node (o_208 p A P) .nil .nil) (.node (o_278 p A P) .nil .nil))) (.node (o_90 p A P) (.node (o_124 p A P) (.node (o_190 p A P) .nil .nil) (.node (o_260 p A P) .nil .nil)) (.node (o_156 p A P) (.node (o_226 p A P) .nil .nil) (.node (o_296 p A P) .nil .nil)))) (.node (o_63 p A P) (.node (o_80 p A P) (.node (o_116 p A P) (.node (o_182 p A P) .nil .nil) (.node (o_252 p A P) .nil .nil)) (.node (o_148 p A P) (.node (o_216 p A P) .nil .nil) (.node (o_286 p A P) .nil .nil))) (.node (o_98 p A P) (.node (o_132 p A P) (.node (o_200 p A P) .nil .nil) (.node (o_270 p A P) .nil .nil)) (.node (o_164 p A P) (.node (o_234 p A P) .nil .nil) (.node (o_304 p A P) .nil .nil)))))) (.node (boot_o_5 P) (.node (boot_o_9 P) (.node (o_53 p A P) (.node (o_69 p A P) (.node (o_104 p A P) (.node (o_170 p A P) (.node (o_310 p A P) .nil .nil) .nil) (.node (o_240 p A P) .nil .nil)) (.node (o_138 p A P) (.node (o_206 p A P) .nil .nil) (.node (o_276 p A P) .nil .nil))) (.node (o_88 p A P) (.node (o_122 p A P) (.node (o_188 p A P) .nil .nil) (.node (o_258 p A P) .nil .nil)) (.node (o_154 p A P) (.node (o_224 p A P) .nil .nil) (.node (o_294 p A P) .nil .nil)))) (.node (o_61 p A P) (.node (o_78 p A P) (.node (o_114 p A P) (.node (o_180 p A P) .nil .nil) (.node (o_250 p A P) .nil .nil)) (.node (o_146 p A P) (.node (o_214 p A P) .nil .nil) (.node (o_284 p A P) .nil .nil))) (.node (o_96 p A P) (.node (o_130 p A P) (.node (o_198 p A P) .nil .nil) (.node (o_268 p A P) .nil .nil)) (.node (o_162 p A P) (.node (o_232 p A P) .nil .nil) (.node (o_302 p A P) .nil .nil))))) (.node (o_45 p A P) (.node (o_57 p A P) (.node (o_73 p A P) (.node (o_110 p A P) (.node (o_176 p A P) .nil .nil) (.node (o_246 p A P) .nil .nil)) (.node (o_142 p A P) (.node (o_210 p A P) .nil .nil) (.node (o_280 p A P) .nil .nil))) (.node (o_92 p A P) (.node (o_126 p A P) (.node (o_192 p A P) .nil .nil) (.node (o_262 p A P) .nil .nil)) (.node (o_158 p A P) (.node (o_228 p A P) .nil .nil) (.node (o_298 p A P) .nil .nil)))) (.node (o_65 p A P) (.node (o_82 p A P) (.node (o_118 p A P) (.node (o_184 p A P) .nil .nil) (.node (o_254 p A P) .nil .nil)) (.node (o_150 p A P) (.node (o_218 p A P) .nil .nil) (.node (o_290 p A P) .nil .nil))) (.node (o_100 p A P) (.node (o_134 p A P) (.node (o_202 p A P) .nil .nil) (.node (o_272 p A P) .nil .nil)) (.node (o_166 p A P) (.node (o_236 p A P) .nil .nil) (.node (o_306 p A P) .nil .nil))))))) (.node (boot_o_2 P) (.node (boot_o_4 P) (.node (boot_o_8 P) (.node (o_52 p A P) (.node (o_68 p A P) (.node (o_103 p A P) (.node (o_169 p A P) (.node (o_309 p A P) .nil .nil) .nil) (.node (o_239 p A P) .nil .nil)) (.node (o_137 p A P) (.node (o_205 p A P) .nil .nil) (.node (o_275 p A P) .nil .nil))) (.node (o_87 p A P) (.node (o_121 p A P) (.node (o_187 p A P) .nil .nil) (.node (o_257 p A P) .nil .nil)) (.node (o_153 p A P) (.node (o_223 p A P) .nil .nil) (.node (o_293 p A P) .nil .nil)))) (.node (o_60 p A P) (.node (o_77 p A P) (.node (o_113 p A P) (.node (o_179 p A P) .nil .nil) (.node (o_249 p A P) .nil .nil)) (.node (o_145 p A P) (.node (o_213 p A P) .nil .nil) (.node (o_283 p A P) .nil .nil))) (.node (o_95 p A P) (.node (o_129 p A P) (.node (o_195 p A P) .nil .nil) (.node (o_267 p A P) .nil .nil)) (.node (o_161 p A P) (.node (o_231 p A P) .nil .nil) (.node (o_301 p A P) .nil .nil))))) (.node (o_289 p A P) (.node (o_56 p A P) (.node (o_72 p A P) (.node (o_107 p A P) (.node (o_175 p A P) .nil .nil) (.node (o_245 p A P) .nil .nil)) (.node (o_141 p A P) (.node (o_209 p A P) .nil .nil) (.node (o_279 p A P) .nil .nil))) (.node (o_91 p A P) (.node (o_125 p A P) (.node (o_191 p A P) .nil .nil) (.node (o_261 p A P) .nil .nil)) (.node (o_157 p A P) (.node (o_227 p A P) .nil .nil) (.node (o_297 p A P) .nil .nil)))) (.node (o_64 p A P) (.node (o_81 p A P) (.node (o_117 p A P) (.node (o_183 p A P) .nil .nil) (.node (o_253 p A P) .nil .nil)) (.node (o_149 p A P) (.node (o_217 p A P) .nil .nil) (.node (o_287 p A P) .nil .nil))) (.node (o_99 p A P) (.node (o_133 p A P) (.node (o_201 p A P) .nil .nil) (.node (o_271 p A P) .nil .nil)) (.node (o_165 p A P) (.node (o_235 p A P) .nil .nil) (.node (o_305 p A P) .nil .nil)))))) (.node (boot_o_6 P) (.node (boot_o_10 P) (.node (o_54 p A P) (.node (o_70 p A P) (.node (o_105 p A P) (.node (o_171 p A P) .nil .nil) (.node (o_241 p A P) .nil .nil)) (.node (o_139 p A P) (.node (o_207 p A P) .nil .nil) (.node (o_277 p A P) .nil .nil))) (.node (o_89 p A P) (.node (o_123 p A P) (.node (o_189 p A P) .nil .nil) (.node (o_259 p A P) .nil .nil)) (.node (o_155 p A P) (.node (o_225 p A P) .nil .nil) (.node (o_295 p A P) .nil .nil)))) (.node (o_62 p A P) (.node (o_79 p A P) (.node (o_115 p A P) (.node (o_181 p A P) .nil .nil) (.node (o_251 p A P) .nil .nil)) (.node (o_147 p A P) (.node (o_215 p A P) .nil .nil) (.node (o_285 p A P) .nil .nil))) (.node (o_97 p A P) (.node (o_131 p A P) (.node (o_199 p A P) .nil .nil) (.node (o_269 p A P) .nil .nil)) (.node (o_163 p A P) (.node (o_233 p A P) .nil .nil) (.node (o_303 p A P) .nil .nil))))) (.node (o_46 p A P) (.node (o_58 p A P) (.node (o_74 p A P) (.node (o_111 p A P) (.node (o_177 p A P) .nil .nil) (.node (o_247 p A P) .nil .nil)) (.node (o_143 p A P) (.node (o_211 p A P) .nil .nil) (.node (o_281 p A P) .nil .nil))) (.node (o_93 p A P) (.node (o_127 p A P) (.node (o_193 p A P) .nil .nil) (.node (o_263 p A P) .nil .nil)) (.node (o_159 p A P) (.node (o_229 p A P) .nil .nil) (.node (o_299 p A P) .nil .nil)))) (.node (o_66 p A P) (.node (o_83 p A P) (.node (o_119 p A P) (.node (o_185 p A P) .nil .nil) (.node (o_255 p A P) .nil .nil)) (.node (o_151 p A P) (.node (o_221 p A P) .nil .nil) (.node (o_291 p A P) .nil .nil))) (.node (o_101 p A P) (.node (o_135 p A P) (.node (o_203 p A P) .nil .nil) (.node (o_273 p A P) .nil .nil)) (.node (o_167 p A P) (.node (o_237 p A P) .nil .nil) (.node (o_307 p A P) .nil .nil))))))))
noncomputable def tree_333 (p : Program) (A : At) (P : Params) : BT := (.node (boot_o_0 P) (.node (boot_o_1 P) (.node (o_311 p A P) (.node (boot_o_7 P) (.node (o_51 p A P) (.node (o_67 p A P) (.node (o_102 p A P) (.node (o_168 p A P) (.node (o_308 p A P) .nil .nil) .nil) (.node (o_238 p A P) .nil .nil)) (.node (o_136 p A P) (.node (o_204 p A P) .nil .nil) (.node (o_274 p A P) .nil .nil))) (.node (o_84 p A P) (.node (o_120 p A P) (.node (o_186 p A P) (.node (o_326 p A P) .nil .nil) .nil) (.node (o_256 p A P) .nil .nil)) (.node (o_152 p A P) (.node (o_222 p A P) .nil .nil) (.node (o_292 p A P) .nil .nil)))) (.node (o_59 p A P) (.node (o_76 p A P) (.node (o_112 p A P) (.node (o_178 p A P) (.node (o_318 p A P) .nil .nil) .nil) (.node (o_248 p A P) .nil .nil)) (.node (o_144 p A P) (.node (o_212 p A P) .nil .nil) (.node (o_282 p A P) .nil .nil))) (.node (o_94 p A P) (.node (o_128 p A P) (.node (o_194 p A P) .nil .nil) (.node (o_264 p A P) .nil .nil)) (.node (o_160 p A P) (.node (o_230 p A P) .nil .nil) (.node (o_300 p A P) .nil .nil))))) (.node (o_43 p A P) (.node (o_55 p A P) (.node (o_71 p A P) (.node (o_106 p A P) (.node (o_172 p A P) (.node (o_314 p A P) .nil .nil) .nil) (.node (o_244 p A P) .nil .nil)) (.node (o_140 p A P) (.node (o_208 p A P) .nil .nil) (.node (o_278 p A P) .nil .nil))) (.node (o_90 p A P) (.node (o_124 p A P) (.node (o_190 p A P) (.node (o_330 p A P) .nil .nil) .nil) (.node (o_260 p A P) .nil .nil)) (.node (o_156 p A P) (.node (o_226 p A P) .nil .nil) (.node (o_296 p A P) .nil .nil)))) (.node (o_63 p A P) (.node (o_80 p A P) (.node (o_116 p A P) (.node (o_182 p A P) (.node (o_322 p A P) .nil .nil) .nil) (.node (o_252 p A P) .nil .nil)) (.node (o_148 p A P) (.node (o_216 p A P) .nil .nil) (.node (o_286 p A P) .nil .nil))) (.node (o_98 p A P) (.node (o_132 p A P) (.node (o_200 p A P) .nil .nil) (.node (o_270 p A P) .nil .nil)) (.node (o_164 p A P) (.node (o_234 p A P) .nil .nil) (.node (o_304 p A P) .nil .nil)))))) (.node (boot_o_5 P) (.node (boot_o_9 P) (.node (o_53 p A P) (.node (o_69 p A P) (.node (o_104 p A P) (.node (o_170 p A P) (.node (o_310 p A P) .nil .nil) .nil) (.node (o_240 p A P) .nil .nil)) (.node (o_138 p A P) (.node (o_206 p A P) .nil .nil) (.node (o_276 p A P) .nil .nil))) (.node (o_88 p A P) (.node (o_122 p A P) (.node (o_188 p A P) (.node (o_328 p A P) .nil .nil) .nil) (.node (o_258 p A P) .nil .nil)) (.node (o_154 p A P) (.node (o_224 p A P) .nil .nil) (.node (o_294 p A P) .nil .nil)))) (.node (o_61 p A P) (.node (o_78 p A P) (.node (o_114 p A P) (.node (o_180 p A P) (.node (o_320 p A P) .nil .nil) .nil) (.node (o_250 p A P) .nil .nil)) (.node (o_146 p A P) (.node (o_214 p A P) .nil .nil) (.node (o_284 p A P) .nil .nil))) (.node (o_96 p A P) (.node (o_130 p A P) (.node (o_198 p A P) .nil .nil) (.node (o_268 p A P) .nil .nil)) (.node (o_162 p A P) (.node (o_232 p A P) .nil .nil) (.node (o_302 p A P) .nil .nil))))) (.node (o_45 p A P) (.node (o_57 p A P) (.node (o_73 p A P) (.node (o_110 p A P) (.node (o_176 p A P) (.node (o_316 p A P) .nil .nil) .nil) (.node (o_246 p A P) .nil .nil)) (.node (o_142 p A P) (.node (o_210 p A P) .nil .nil) (.node (o_280 p A P) .nil .nil))) (.node (o_92 p A P) (.node (o_126 p A P) (.node (o_192 p A P) (.node (o_332 p A P) .nil .nil) .nil) (.node (o_262 p A P) .nil .nil)) (.node (o_158 p A P) (.node (o_228 p A P) .nil .nil) (.node (o_298 p A P) .nil .nil)))) (.node (o_65 p A P) (.node (o_82 p A P) (.node (o_118 p A P) (.node (o_184 p A P) (.node (o_324 p A P) .nil .nil) .nil) (.node (o_254 p A P) .nil .nil)) (.node (o_150 p A P) (.node (o_218 p A P) .nil .nil) (.node (o_290 p A P) .nil .nil))) (.node (o_100 p A P) (.node (o_134 p A P) (.node (o_202 p A P) .nil .nil) (.node (o_272 p A P) .nil .nil)) (.node (o_166 p A P) (.node (o_236 p A P) .nil .nil) (.node (o_306 p A P) .nil .nil))))))) (.node (boot_o_2 P) (.node (boot_o_4 P) (.node (boot_o_8 P) (.node (o_52 p A P) (.node (o_68 p A P) (.node (o_103 p A P) (.node (o_169 p A P) (.node (o_309 p A P) .nil .nil) .nil) (.node (o_239 p A P) .nil .nil)) (.node (o_137 p A P) (.node (o_205 p A P) .nil .nil) (.node (o_275 p A P) .nil .nil))) (.node (o_87 p A P) (.node (o_121 p A P) (.node (o_187 p A P) (.node (o_327 p A P) .nil .nil) .nil) (.node (o_257 p A P) .nil .nil)) (.node (o_153 p A P) (.node (o_223 p A P) .nil .nil) (.node (o_293 p A P) .nil .nil)))) (.node (o_60 p A P) (.node (o_77 p A P) (.node (o_113 p A P) (.node (o_179 p A P) (.node (o_319 p A P) .nil .nil) .nil) (.node (o_249 p A P) .nil .nil)) (.node (o_145 p A P) (.node (o_213 p A P) .nil .nil) (.node (o_283 p A P) .nil .nil))) (.node (o_95 p A P) (.node (o_129 p A P) (.node (o_195 p A P) .nil .nil) (.node (o_267 p A P) .nil .nil)) (.node (o_161 p A P) (.node (o_231 p A P) .nil .nil) (.node (o_301 p A P) .nil .nil))))) (.node (o_312 p A P) (.node (o_56 p A P) (.node (o_72 p A P) (.node (o_107 p A P) (.node (o_175 p A P) (.node (o_315 p A P) .nil .nil) .nil) (.node (o_245 p A P) .nil .nil)) (.node (o_141 p A P) (.node (o_209 p A P) .nil .nil) (.node (o_279 p A P) .nil .nil))) (.node (o_91 p A P) (.node (o_125 p A P) (.node (o_191 p A P) (.node (o_331 p A P) .nil .nil) .nil) (.node (o_261 p A P) .nil .nil)) (.node (o_157 p A P) (.node (o_227 p A P) .nil .nil) (.node (o_297 p A P) .nil .nil)))) (.node (o_64 p A P) (.node (o_81 p A P) (.node (o_117 p A P) (.node (o_183 p A P) (.node (o_323 p A P) .nil .nil) .nil) (.node (o_253 p A P) .nil .nil)) (.node (o_149 p A P) (.node (o_217 p A P) .nil .nil) (.node (o_287 p A P) .nil .nil))) (.node (o_99 p A P) (.node (o_133 p A P) (.node (o_201 p A P) .nil .nil) (.node (o_271 p A P) .nil .nil)) (.node (o_165 p A P) (.node (o_235 p A P) .nil .nil) (.node (o_305 p A P) .nil .nil)))))) (.node (boot_o_6 P) (.node (boot_o_10 P) (.node (o_54 p A P) (.node (o_70 p A P) (.node (o_105 p A P) (.node (o_171 p A P) (.node (o_313 p A P) .nil .nil) .nil) (.node (o_241 p A P) .nil .nil)) (.node (o_139 p A P) (.node (o_207 p A P) .nil .nil) (.node (o_277 p A P) .nil .nil))) (.node (o_89 p A P) (.node (o_123 p A P) (.node (o_189 p A P) (.node (o_329 p A P) .nil .nil) .nil) (.node (o_259 p A P) .nil .nil)) (.node (o_155 p A P) (.node (o_225 p A P) .nil .nil) (.node (o_295 p A P) .nil .nil)))) (.node (o_62 p A P) (.node (o_79 p A P) (.node (o_115 p A P) (.node (o_181 p A P) (.node (o_321 p A P) .nil .nil) .nil) (.node (o_251 p A P) .nil .nil)) (.node (o_147 p A P) (.node (o_215 p A P) .nil .nil) (.node (o_285 p A P) .nil .nil))) (.node (o_97 p A P) (.node (o_131 p A P) (.node (o_199 p A P) .nil .nil) (.node (o_269 p A P) .nil .nil)) (.node (o_163 p A P) (.node (o_233 p A P) .nil .nil) (.node (o_303 p A P) .nil .nil))))) (.node (o_46 p A P) (.node (o_58 p A P) (.node (o_74 p A P) (.node (o_111 p A P) (.node (o_177 p A P) (.node (o_317 p A P) .nil .nil) .nil) (.node (o_247 p A P) .nil .nil)) (.node (o_143 p A P) (.node (o_211 p A P) .nil .nil) (.node (o_281 p A P) .nil .nil))) (.node (o_93 p A P) (.node (o_127 p A P) (.node (o_193 p A P) (.node (o_333 p A P) .nil .nil) .nil) (.node (o_263 p A P) .nil .nil)) (.node (o_159 p A P) (.node (o_229 p A P) .nil .nil) (.node (o_299 p A P) .nil .nil)))) (.node (o_66 p A P) (.node (o_83 p A P) (.node (o_119 p A P) (.node (o_185 p A P) (.node (o_325 p A P) .nil .nil) .nil) (.node (o_255 p A P) .nil .nil)) (.node (o_151 p A P) (.node (o_221 p A P) .nil .nil) (.node (o_291 p A P) .nil .nil))) (.node (o_101 p A P) (.node (o_135 p A P) (.node (o_203 p A P) .nil .nil) (.node (o_273 p A P) .nil .nil)) (.node (o_167 p A P) (.node (o_237 p A P) .nil .nil) (.node (o_307 p A P) .nil .nil))))))))
noncomputable def tree_356 (p : Program) (A : At) (P : Params) : BT := (.node (boot_o_0 P) (.node (boot_o_1 P) (.node (o_334 p A P) (.node (boot_o_7 P) (.node (o_51 p A P) (.node (o_67 p A P) (.node (o_102 p A P) (.node (o_168 p A P) (.node (o_308 p A P) .nil .nil) .nil) (.node (o_238 p A P) .nil .nil)) (.node (o_136 p A P) (.node (o_204 p A P) (.node (o_344 p A P) .nil .nil) .nil) (.node (o_274 p A P) .nil .nil))) (.node (o_84 p A P) (.node (o_120 p A P) (.node (o_186 p A P) (.node (o_326 p A P) .nil .nil) .nil) (.node (o_256 p A P) .nil .nil)) (.node (o_152 p A P) (.node (o_222 p A P) .nil .nil) (.node (o_292 p A P) .nil .nil)))) (.node (o_59 p A P) (.node (o_76 p A P) (.node (o_112 p A P) (.node (o_178 p A P) (.node (o_318 p A P) .nil .nil) .nil) (.node (o_248 p A P) .nil .nil)) (.node (o_144 p A P) (.node (o_212 p A P) (.node (o_352 p A P) .nil .nil) .nil) (.node (o_282 p A P) .nil .nil))) (.node (o_94 p A P) (.node (o_128 p A P) (.node (o_194 p A P) (.node (o_336 p A P) .nil .nil) .nil) (.node (o_264 p A P) .nil .nil)) (.node (o_160 p A P) (.node (o_230 p A P) .nil .nil) (.node (o_300 p A P) .nil .nil))))) (.node (o_43 p A P) (.node (o_55 p A P) (.node (o_71 p A P) (.node (o_106 p A P) (.node (o_172 p A P) (.node (o_314 p A P) .nil .nil) .nil) (.node (o_244 p A P) .nil .nil)) (.node (o_140 p A P) (.node (o_208 p A P) (.node (o_348 p A P) .nil .nil) .nil) (.node (o_278 p A P) .nil .nil))) (.node (o_90 p A P) (.node (o_124 p A P) (.node (o_190 p A P) (.node (o_330 p A P) .nil .nil) .nil) (.node (o_260 p A P) .nil .nil)) (.node (o_156 p A P) (.node (o_226 p A P) .nil .nil) (.node (o_296 p A P) .nil .nil)))) (.node (o_63 p A P) (.node (o_80 p A P) (.node (o_116 p A P) (.node (o_182 p A P) (.node (o_322 p A P) .nil .nil) .nil) (.node (o_252 p A P) .nil .nil)) (.node (o_148 p A P) (.node (o_216 p A P) (.node (o_356 p A P) .nil .nil) .nil) (.node (o_286 p A P) .nil .nil))) (.node (o_98 p A P) (.node (o_132 p A P) (.node (o_200 p A P) (.node (o_340 p A P) .nil .nil) .nil) (.node (o_270 p A P) .nil .nil)) (.node (o_164 p A P) (.node (o_234 p A P) .nil .nil) (.node (o_304 p A P) .nil .nil)))))) (.node (boot_o_5 P) (.node (boot_o_9 P) (.node (o_53 p A P) (.node (o_69 p A P) (.node (o_104 p A P) (.node (o_170 p A P) (.node (o_310 p A P) .nil .nil) .nil) (.node (o_240 p A P) .nil .nil)) (.node (o_138 p A P) (.node (o_206 p A P) (.node (o_346 p A P) .nil .nil) .nil) (.node (o_276 p A P) .nil .nil))) (.node (o_88 p A P) (.node (o_122 p A P) (.node (o_188 p A P) (.node (o_328 p A P) .nil .nil) .nil) (.node (o_258 p A P) .nil .nil)) (.node (o_154 p A P) (.node (o_224 p A P) .nil .nil) (.node (o_294 p A P) .nil .nil)))) (.node (o_61 p A P) (.node (o_78 p A P) (.node (o_114 p A P) (.node (o_180 p A P) (.node (o_320 p A P) .nil .nil) .nil) (.node (o_250 p A P) .nil .nil)) (.node (o_146 p A P) (.node (o_214 p A P) (.node (o_354 p A P) .nil .nil) .nil) (.node (o_284 p A P) .nil .nil))) (.node (o_96 p A P) (.node (o_130 p A P) (.node (o_198 p A P) (.node (o_338 p A P) .nil .nil) .nil) (.node (o_268 p A P) .nil .nil)) (.node (o_162 p A P) (.node (o_232 p A P) .nil .nil) (.node (o_302 p A P) .nil .nil))))) (.node (o_45 p A P) (.node (o_57 p A P) (.node (o_73 p A P) (.node (o_110 p A P) (.node (o_176 p A P) (.node (o_316 p A P) .nil .nil) .nil) (.node (o_246 p A P) .nil .nil)) (.node (o_142 p A P) (.node (o_210 p A P) (.node (o_350 p A P) .nil .nil) .nil) (.node (o_280 p A P) .nil .nil))) (.node (o_92 p A P) (.node (o_126 p A P) (.node (o_192 p A P) (.node (o_332 p A P) .nil .nil) .nil) (.node (o_262 p A P) .nil .nil)) (.node (o_158 p A P) (.node (o_228 p A P) .nil .nil) (.node (o_298 p A P) .nil .nil)))) (.node (o_65 p A P) (.node (o_82 p A P) (.node (o_118 p A P) (.node (o_184 p A P) (.node (o_324 p A P) .nil .nil) .nil) (.node (o_254 p A P) .nil .nil)) (.node (o_150 p A P) (.node (o_218 p A P) .nil .nil) (.node (o_290 p A P) .nil .nil))) (.node (o_100 p A P) (.node (o_134 p A P) (.node (o_202 p A P) (.node (o_342 p A P) .nil .nil) .nil) (.node (o_272 p A P) .nil .nil)) (.node (o_166 p A P) (.node (o_236 p A P) .nil .nil) (.node (o_306 p A P) .nil .nil))))))) (.node (boot_o_2 P) (.node (boot_o_4 P) (.node (boot_o_8 P) (.node (o_52 p A P) (.node (o_68 p A P) (.node (o_103 p A P) (.node (o_169 p A P) (.node (o_309 p A P) .nil .nil) .nil) (.node (o_239 p A P) .nil .nil)) (.node (o_137 p A P) (.node (o_205 p A P) (.node (o_345 p A P) .nil .nil) .nil) (.node (o_275 p A P) .nil .nil))) (.node (o_87 p A P) (.node (o_121 p A P) (.node (o_187 p A P) (.node (o_327 p A P) .nil .nil) .nil) (.node (o_257 p A P) .nil .nil)) (.node (o_153 p A P) (.node (o_223 p A P) .nil .nil) (.node (o_293 p A P) .nil .nil)))) (.node (o_60 p A P) (.node (o_77 p A P) (.node (o_113 p A P) (.node (o_179 p A P) (.node (o_319 p A P) .nil .nil) .nil) (.node (o_249 p A P) .nil .nil)) (.node (o_145 p A P) (.node (o_213 p A P) (.node (o_353 p A P) .nil .nil) .nil) (.node (o_283 p A P) .nil .nil))) (.node (o_95 p A P) (.node (o_129 p A P) (.node (o_195 p A P) (.node (o_337 p A P) .nil .nil) .nil) (.node (o_267 p A P) .nil .nil)) (.node (o_161 p A P) (.node (o_231 p A P) .nil .nil) (.node (o_301 p A P) .nil .nil))))) (.node (o_335 p A P) (.node (o_56 p A P) (.node (o_72 p A P) (.node (o_107 p A P) (.node (o_175 p A P) (.node (o_315 p A P) .nil .nil) .nil) (.node (o_245 p A P) .nil .nil)) (.node (o_141 p A P) (.node (o_209 p A P) (.node (o_349 p A P) .nil .nil) .nil) (.node (o_279 p A P) .nil .nil))) (.node (o_91 p A P) (.node (o_125 p A P) (.node (o_191 p A P) (.node (o_331 p A P) .nil .nil) .nil) (.node (o_261 p A P) .nil .nil)) (.node (o_157 p A P) (.node (o_227 p A P) .nil .nil) (.node (o_297 p A P) .nil .nil)))) (.node (o_64 p A P) (.node (o_81 p A P) (.node (o_117 p A P) (.node (o_183 p A P) (.node (o_323 p A P) .nil .nil) .nil) (.node (o_253 p A P) .nil .nil)) (.node (o_149 p A P) (.node (o_217 p A P) .nil .nil) (.node (o_287 p A P) .nil .nil))) (.node (o_99 p A P) (.node (o_133 p A P) (.node (o_201 p A P) (.node (o_341 p A P) .nil .nil) .nil) (.node (o_271 p A P) .nil .nil)) (.node (o_165 p A P) (.node (o_235 p A P) .nil .nil) (.node (o_305 p A P) .nil .nil)))))) (.node (boot_o_6 P) (.node (boot_o_10 P) (.node (o_54 p A P) (.node (o_70 p A P) (.node (o_105 p A P) (.node (o_171 p A P) (.node (o_313 p A P) .nil .nil) .nil) (.node (o_241 p A P) .nil .nil)) (.node (o_139 p A P) (.node (o_207 p A P) (.node (o_347 p A P) .nil .nil) .nil) (.node (o_277 p A P) .nil .nil))) (.node (o_89 p A P) (.node (o_123 p A P) (.node (o_189 p A P) (.node (o_329 p A P) .nil .nil) .nil) (.node (o_259 p A P) .nil .nil)) (.node (o_155 p A P) (.node (o_225 p A P) .nil .nil) (.node (o_295 p A P) .nil .nil)))) (.node (o_62 p A P) (.node (o_79 p A P) (.node (o_115 p A P) (.node (o_181 p A P) (.node (o_321 p A P) .nil .nil) .nil) (.node (o_251 p A P) .nil .nil)) (.node (o_147 p A P) (.node (o_215 p A P) (.node (o_355 p A P) .nil .nil) .nil) (.node (o_285 p A P) .nil .nil))) (.node (o_97 p A P) (.node (o_131 p A P) (.node (o_199 p A P) (.node (o_339 p A P) .nil .nil) .nil) (.node (o_269 p A P) .nil .nil)) (.node (o_163 p A P) (.node (o_233 p A P) .nil .nil) (.node (o_303 p A P) .nil .nil))))) (.node (o_46 p A P) (.node (o_58 p A P) (.node (o_74 p A P) (.node (o_111 p A P) (.node (o_177 p A P) (.node (o_317 p A P) .nil .nil) .nil) (.node (o_247 p A P) .nil .nil)) (.node (o_143 p A P) (.node (o_211 p A P) (.node (o_351 p A P) .nil .nil) .nil) (.node (o_281 p A P) .nil .nil))) (.node (o_93 p A P) (.node (o_127 p A P) (.node (o_193 p A P) (.node (o_333 p A P) .nil .nil) .nil) (.node (o_263 p A P) .nil .nil)) (.node (o_159 p A P) (.node (o_229 p A P) .nil .nil) (.node (o_299 p A P) .nil .nil)))) (.node (o_66 p A P) (.node (o_83 p A P) (.node (o_119 p A P) (.node (o_185 p A P) (.node (o_325 p A P) .nil .nil) .nil) (.node (o_255 p A P) .nil .nil)) (.node (o_151 p A P) (.node (o_221 p A P) .nil .nil) (.node (o_291 p A P) .nil .nil))) (.node (o_101 p A P) (.node (o_135 p A P) (.node (o_203 p A P) (.node (o_343 p A P) .nil .nil) .nil) (.node (o_273 p A P) .nil .nil)) (.node (o_167 p A P) (.node (o_237 p A P) .nil .nil) (.node (o_307 p A P) .nil .nil))))))))
noncomputable def tree_410 (p : Program) (A : At) (P : Params) : BT := (.node (boot_o_0 P) (.node (boot_o_1 P) (.node (o_357 p A P) (.node (boot_o_7 P) (.node (o_51 p A P) (.node (o_67 p A P) (.node (o_102 p A P) (.node (o_168 p A P) (.node (o_308 p A P) .nil .nil) .nil) (.node (o_238 p A P) (.node (o_379 p A P) .nil .nil) .nil)) (.node (o_136 p A P) (.node (o_204 p A P) (.node (o_344 p A P) .nil .nil) .nil) (.node (o_274 p A P) .nil .nil))) (.node (o_84 p A P) (.node (o_120 p A P) (.node (o_186 p A P) (.node (o_326 p A P) .nil .nil) .nil) (.node (o_256 p A P) (.node (o_395 p A P) .nil .nil) .nil)) (.node (o_152 p A P) (.node (o_222 p A P) (.node (o_363 p A P) .nil .nil) .nil) (.node (o_292 p A P) .nil .nil)))) (.node (o_59 p A P) (.node (o_76 p A P) (.node (o_112 p A P) (.node (o_178 p A P) (.node (o_318 p A P) .nil .nil) .nil) (.node (o_248 p A P) (.node (o_387 p A P) .nil .nil) .nil)) (.node (o_144 p A P) (.node (o_212 p A P) (.node (o_359 p A P) .nil .nil) .nil) (.node (o_282 p A P) .nil .nil))) (.node (o_94 p A P) (.node (o_128 p A P) (.node (o_194 p A P) (.node (o_336 p A P) .nil .nil) .nil) (.node (o_264 p A P) (.node (o_403 p A P) .nil .nil) .nil)) (.node (o_160 p A P) (.node (o_230 p A P) (.node (o_371 p A P) .nil .nil) .nil) (.node (o_300 p A P) .nil .nil))))) (.node (o_43 p A P) (.node (o_55 p A P) (.node (o_71 p A P) (.node (o_106 p A P) (.node (o_172 p A P) (.node (o_314 p A P) .nil .nil) .nil) (.node (o_244 p A P) (.node (o_383 p A P) .nil .nil) .nil)) (.node (o_140 p A P) (.node (o_208 p A P) (.node (o_348 p A P) .nil .nil) .nil) (.node (o_278 p A P) .nil .nil))) (.node (o_90 p A P) (.node (o_124 p A P) (.node (o_190 p A P) (.node (o_330 p A P) .nil .nil) .nil) (.node (o_260 p A P) (.node (o_399 p A P) .nil .nil) .nil)) (.node (o_156 p A P) (.node (o_226 p A P) (.node (o_367 p A P) .nil .nil) .nil) (.node (o_296 p A P) .nil .nil)))) (.node (o_63 p A P) (.node (o_80 p A P) (.node (o_116 p A P) (.node (o_182 p A P) (.node (o_322 p A P) .nil .nil) .nil) (.node (o_252 p A P) (.node (o_391 p A P) .nil .nil) .nil)) (.node (o_148 p A P) (.node (o_216 p A P) (.node (o_356 p A P) .nil .nil) .nil) (.node (o_286 p A P) .nil .nil))) (.node (o_98 p A P) (.node (o_132 p A P) (.node (o_200 p A P) (.node (o_340 p A P) .nil .nil) .nil) (.node (o_270 p A P) (.node (o_407 p A P) .nil .nil) .nil)) (.node (o_164 p A P) (.node (o_234 p A P) (.node (o_375 p A P) .nil .nil) .nil) (.node (o_304 p A P) .nil .nil)))))) (.node (boot_o_5 P) (.node (boot_o_9 P) (.node (o_53 p A P) (.node (o_69 p A P) (.node (o_104 p A P) (.node (o_170 p A P) (.node (o_310 p A P) .nil .nil) .nil) (.node (o_240 p A P) (.node (o_381 p A P) .nil .nil) .nil)) (.node (o_138 p A P) (.node (o_206 p A P) (.node (o_346 p A P) .nil .nil) .nil) (.node (o_276 p A P) .nil .nil))) (.node (o_88 p A P) (.node (o_122 p A P) (.node (o_188 p A P) (.node (o_328 p A P) .nil .nil) .nil) (.node (o_258 p A P) (.node (o_397 p A P) .nil .nil) .nil)) (.node (o_154 p A P) (.node (o_224 p A P) (.node (o_365 p A P) .nil .nil) .nil) (.node (o_294 p A P) .nil .nil)))) (.node (o_61 p A P) (.node (o_78 p A P) (.node (o_114 p A P) (.node (o_180 p A P) (.node (o_320 p A P) .nil .nil) .nil) (.node (o_250 p A P) (.node (o_389 p A P) .nil .nil) .nil)) (.node (o_146 p A P) (.node (o_214 p A P) (.node (o_354 p A P) .nil .nil) .nil) (.node (o_284 p A P) .nil .nil))) (.node (o_96 p A P) (.node (o_130 p A P) (.node (o_198 p A P) (.node (o_338 p A P) .nil .nil) .nil) (.node (o_268 p A P) (.node (o_405 p A P) .nil .nil) .nil)) (.node (o_162 p A P) (.node (o_232 p A P) (.node (o_373 p A P) .nil .nil) .nil) (.node (o_302 p A P) .nil .nil))))) (.node (o_45 p A P) (.node (o_57 p A P) (.node (o_73 p A P) (.node (o_110 p A P) (.node (o_176 p A P) (.node (o_316 p A P) .nil .nil) .nil) (.node (o_246 p A P) (.node (o_385 p A P) .nil .nil) .nil)) (.node (o_142 p A P) (.node (o_210 p A P) (.node (o_350 p A P) .nil .nil) .nil) (.node (o_280 p A P) .nil .nil))) (.node (o_92 p A P) (.node (o_126 p A P) (.node (o_192 p A P) (.node (o_332 p A P) .nil .nil) .nil) (.node (o_262 p A P) (.node (o_401 p A P) .nil .nil) .nil)) (.node (o_158 p A P) (.node (o_228 p A P) (.node (o_369 p A P) .nil .nil) .nil) (.node (o_298 p A P) .nil .nil)))) (.node (o_65 p A P) (.node (o_82 p A P) (.node (o_118 p A P) (.node (o_184 p A P) (.node (o_324 p A P) .nil .nil) .nil) (.node (o_254 p A P) (.node (o_393 p A P) .nil .nil) .nil)) (.node (o_150 p A P) (.node (o_218 p A P) (.node (o_361 p A P) .nil .nil) .nil) (.node (o_290 p A P) .nil .nil))) (.node (o_100 p A P) (.node (o_134 p A P) (.node (o_202 p A P) (.node (o_342 p A P) .nil .nil) .nil) (.node (o_272 p A P) (.node (o_409 p A P) .nil .nil) .nil)) (.node (o_166 p A P) (.node (o_236 p A P) (.node (o_377 p A P) .nil .nil) .nil) (.node (o_306 p A P) .nil .nil))))))) (.node (boot_o_2 P) (.node (boot_o_4 P) (.node (boot_o_8 P) (.node (o_52 p A P) (.node (o_68 p A P) (.node (o_103 p A P) (.node (o_169 p A P) (.node (o_309 p A P) .nil .nil) .nil) (.node (o_239 p A P) (.node (o_380 p A P) .nil .nil) .nil)) (.node (o_137 p A P) (.node (o_205 p A P) (.node (o_345 p A P) .nil .nil) .nil) (.node (o_275 p A P) .nil .nil))) (.node (o_87 p A P) (.node (o_121 p A P) (.node (o_187 p A P) (.node (o_327 p A P) .nil .nil) .nil) (.node (o_257 p A P) (.node (o_396 p A P) .nil .nil) .nil)) (.node (o_153 p A P) (.node (o_223 p A P) (.node (o_364 p A P) .nil .nil) .nil) (.node (o_293 p A P) .nil .nil)))) (.node (o_60 p A P) (.node (o_77 p A P) (.node (o_113 p A P) (.node (o_179 p A P) (.node (o_319 p A P) .nil .nil) .nil) (.node (o_249 p A P) (.node (o_388 p A P) .nil .nil) .nil)) (.node (o_145 p A P) (.node (o_213 p A P) (.node (o_353 p A P) .nil .nil) .nil) (.node (o_283 p A P) .nil .nil))) (.node (o_95 p A P) (.node (o_129 p A P) (.node (o_195 p A P) (.node (o_337 p A P) .nil .nil) .nil) (.node (o_267 p A P) (.node (o_404 p A P) .nil .nil) .nil)) (.node (o_161 p A P) (.node (o_231 p A P) (.node (o_372 p A P) .nil .nil) .nil) (.node (o_301 p A P) .nil .nil))))) (.node (o_358 p A P) (.node (o_56 p A P) (.node (o_72 p A P) (.node (o_107 p A P) (.node (o_175 p A P) (.node (o_315 p A P) .nil .nil) .nil) (.node (o_245 p A P) (.node (o_384 p A P) .nil .nil) .nil)) (.node (o_141 p A P) (.node (o_209 p A P) (.node (o_349 p A P) .nil .nil) .nil) (.node (o_279 p A P) .nil .nil))) (.node (o_91 p A P) (.node (o_125 p A P) (.node (o_191 p A P) (.node (o_331 p A P) .nil .nil) .nil) (.node (o_261 p A P) (.node (o_400 p A P) .nil .nil) .nil)) (.node (o_157 p A P) (.node (o_227 p A P) (.node (o_368 p A P) .nil .nil) .nil) (.node (o_297 p A P) .nil .nil)))) (.node (o_64 p A P) (.node (o_81 p A P) (.node (o_117 p A P) (.node (o_183 p A P) (.node (o_323 p A P) .nil .nil) .nil) (.node (o_253 p A P) (.node (o_392 p A P) .nil .nil) .nil)) (.node (o_149 p A P) (.node (o_217 p A P) (.node (o_360 p A P) .nil .nil) .nil) (.node (o_287 p A P) .nil .nil))) (.node (o_99 p A P) (.node (o_133 p A P) (.node (o_201 p A P) (.node (o_341 p A P) .nil .nil) .nil) (.node (o_271 p A P) (.node (o_408 p A P) .nil .nil) .nil)) (.node (o_165 p A P) (.node (o_235 p A P) (.node (o_376 p A P) .nil .nil) .nil) (.node (o_305 p A P) .nil .nil)))))) (.node (boot_o_6 P) (.node (boot_o_10 P) (.node (o_54 p A P) (.node (o_70 p A P) (.node (o_105 p A P) (.node (o_171 p A P) (.node (o_313 p A P) .nil .nil) .nil) (.node (o_241 p A P) (.node (o_382 p A P) .nil .nil) .nil)) (.node (o_139 p A P) (.node (o_207 p A P) (.node (o_347 p A P) .nil .nil) .nil) (.node (o_277 p A P) .nil .nil))) (.node (o_89 p A P) (.node (o_123 p A P) (.node (o_189 p A P) (.node (o_329 p A P) .nil .nil) .nil) (.node (o_259 p A P) (.node (o_398 p A P) .nil .nil) .nil)) (.node (o_155 p A P) (.node (o_225 p A P) (.node (o_366 p A P) .nil .nil) .nil) (.node (o_295 p A P) .nil .nil)))) (.node (o_62 p A P) (.node (o_79 p A P) (.node (o_115 p A P) (.node (o_181 p A P) (.node (o_321 p A P) .nil .nil) .nil) (.node (o_251 p A P) (.node (o_390 p A P) .nil .nil) .nil)) (.node (o_147 p A P) (.node (o_215 p A P) (.node (o_355 p A P) .nil .nil) .nil) (.node (o_285 p A P) .nil .nil))) (.node (o_97 p A P) (.node (o_131 p A P) (.node (o_199 p A P) (.node (o_339 p A P) .nil .nil) .nil) (.node (o_269 p A P) (.node (o_406 p A P) .nil .nil) .nil)) (.node (o_163 p A P) (.node (o_233 p A P) (.node (o_374 p A P) .nil .nil) .nil) (.node (o_303 p A P) .nil .nil))))) (.node (o_46 p A P) (.node (o_58 p A P) (.node (o_74 p A P) (.node (o_111 p A P) (.node (o_177 p A P) (.node (o_317 p A P) .nil .nil) .nil) (.node (o_247 p A P) (.node (o_386 p A P) .nil .nil) .nil)) (.node (o_143 p A P) (.node (o_211 p A P) (.node (o_351 p A P) .nil .nil) .nil) (.node (o_281 p A P) .nil .nil))) (.node (o_93 p A P) (.node (o_127 p A P) (.node (o_193 p A P) (.node (o_333 p A P) .nil .nil) .nil) (.node (o_263 p A P) (.node (o_402 p A P) .nil .nil) .nil)) (.node (o_159 p A P) (.node (o_229 p A P) (.node (o_370 p A P) .nil .nil) .nil) (.node (o_299 p A P) .nil .nil)))) (.node (o_66 p A P) (.node (o_83 p A P) (.node (o_119 p A P) (.node (o_185 p A P) (.node (o_325 p A P) .nil .nil) .nil) (.node (o_255 p A P) (.node (o_394 p A P) .nil .nil) .nil)) (.node (o_151 p A P) (.node (o_221 p A P) (.node (o_362 p A P) .nil .nil) .nil) (.node (o_291 p A P) .nil .nil))) (.node (o_101 p A P) (.node (o_135 p A P) (.node (o_203 p A P) (.node (o_343 p A P) .nil .nil) .nil) (.node (o_273 p A P) (.node (o_410 p A P) .nil .nil) .nil)) (.node (o_167 p A P) (.node (o_237 p A P) (.node (o_378 p A P) .nil .nil) .nil) (.node (o_307 p A P) .nil .nil))))))))
noncomputable def tree_47 (p : Program) (A : At) (P : Params) : BT := (.node (boot_o_0 P) (.node (boot_o_1 P) (.node (boot_o_3 P) (.node (boot_o_7 P) .nil .nil) (.node (o_43 p A P) .nil .nil)) (.node (boot_o_5 P) (.node (boot_o_9 P) .nil .nil) (.node (o_45 p A P) .nil .nil))) (.node (boot_o_2 P) (.node (boot_o_4 P) (.node (boot_o_8 P) .nil .nil) (.node (o_44 p A P) .nil .nil)) (.node (boot_o_6 P) (.node (boot_o_10 P) .nil .nil) (.node (o_46 p A P) .nil .nil))))
noncomputable def tree_481 (p : Program) (A : At) (P : Params) : BT := (.node (boot_o_0 P) (.node (boot_o_1 P) (.node (o_411 p A P) (.node (boot_o_7 P) (.node (o_51 p A P) (.node (o_67 p A P) (.node (o_102 p A P) (.node (o_168 p A P) (.node (o_308 p A P) .nil .nil) (.node (o_445 p A P) .nil .nil)) (.node (o_238 p A P) (.node (o_379 p A P) .nil .nil) .nil)) (.node (o_136 p A P) (.node (o_204 p A P) (.node (o_344 p A P) .nil .nil) (.node (o_477 p A P) .nil .nil)) (.node (o_274 p A P) (.node (o_413 p A P) .nil .nil) .nil))) (.node (o_84 p A P) (.node (o_120 p A P) (.node (o_186 p A P) (.node (o_326 p A P) .nil .nil) (.node (o_461 p A P) .nil .nil)) (.node (o_256 p A P) (.node (o_395 p A P) .nil .nil) .nil)) (.node (o_152 p A P) (.node (o_222 p A P) (.node (o_363 p A P) .nil .nil) .nil) (.node (o_292 p A P) (.node (o_429 p A P) .nil .nil) .nil)))) (.node (o_59 p A P) (.node (o_76 p A P) (.node (o_112 p A P) (.node (o_178 p A P) (.node (o_318 p A P) .nil .nil) (.node (o_453 p A P) .nil .nil)) (.node (o_248 p A P) (.node (o_387 p A P) .nil .nil) .nil)) (.node (o_144 p A P) (.node (o_212 p A P) (.node (o_359 p A P) .nil .nil) .nil) (.node (o_282 p A P) (.node (o_421 p A P) .nil .nil) .nil))) (.node (o_94 p A P) (.node (o_128 p A P) (.node (o_194 p A P) (.node (o_336 p A P) .nil .nil) (.node (o_469 p A P) .nil .nil)) (.node (o_264 p A P) (.node (o_403 p A P) .nil .nil) .nil)) (.node (o_160 p A P) (.node (o_230 p A P) (.node (o_371 p A P) .nil .nil) .nil) (.node (o_300 p A P) (.node (o_437 p A P) .nil .nil) .nil))))) (.node (o_43 p A P) (.node (o_55 p A P) (.node (o_71 p A P) (.node (o_106 p A P) (.node (o_172 p A P) (.node (o_314 p A P) .nil .nil) (.node (o_449 p A P) .nil .nil)) (.node (o_244 p A P) (.node (o_383 p A P) .nil .nil) .nil)) (.node (o_140 p A P) (.node (o_208 p A P) (.node (o_348 p A P) .nil .nil) (.node (o_481 p A P) .nil .nil)) (.node (o_278 p A P) (.node (o_417 p A P) .nil .nil) .nil))) (.node (o_90 p A P) (.node (o_124 p A P) (.node (o_190 p A P) (.node (o_330 p A P) .nil .nil) (.node (o_465 p A P) .nil .nil)) (.node (o_260 p A P) (.node (o_399 p A P) .nil .nil) .nil)) (.node (o_156 p A P) (.node (o_226 p A P) (.node (o_367 p A P) .nil .nil) .nil) (.node (o_296 p A P) (.node (o_433 p A P) .nil .nil) .nil)))) (.node (o_63 p A P) (.node (o_80 p A P) (.node (o_116 p A P) (.node (o_182 p A P) (.node (o_322 p A P) .nil .nil) (.node (o_457 p A P) .nil .nil)) (.node (o_252 p A P) (.node (o_391 p A P) .nil .nil) .nil)) (.node (o_148 p A P) (.node (o_216 p A P) (.node (o_356 p A P) .nil .nil) .nil) (.node (o_286 p A P) (.node (o_425 p A P) .nil .nil) .nil))) (.node (o_98 p A P) (.node (o_132 p A P) (.node (o_200 p A P) (.node (o_340 p A P) .nil .nil) (.node (o_473 p A P) .nil .nil)) (.node (o_270 p A P) (.node (o_407 p A P) .nil .nil) .nil)) (.node (o_164 p A P) (.node (o_234 p A P) (.node (o_375 p A P) .nil .nil) .nil) (.node (o_304 p A P) (.node (o_441 p A P) .nil .nil) .nil)))))) (.node (boot_o_5 P) (.node (boot_o_9 P) (.node (o_53 p A P) (.node (o_69 p A P) (.node (o_104 p A P) (.node (o_170 p A P) (.node (o_310 p A P) .nil .nil) (.node (o_447 p A P) .nil .nil)) (.node (o_240 p A P) (.node (o_381 p A P) .nil .nil) .nil)) (.node (o_138 p A P) (.node (o_206 p A P) (.node (o_346 p A P) .nil .nil) (.node (o_479 p A P) .nil .nil)) (.node (o_276 p A P) (.node (o_415 p A P) .nil .nil) .nil))) (.node (o_88 p A P) (.node (o_122 p A P) (.node (o_188 p A P) (.node (o_328 p A P) .nil .nil) (.node (o_463 p A P) .nil .nil)) (.node (o_258 p A P) (.node (o_397 p A P) .nil .nil) .nil)) (.node (o_154 p A P) (.node (o_224 p A P) (.node (o_365 p A P) .nil .nil) .nil) (.node (o_294 p A P) (.node (o_431 p A P) .nil .nil) .nil)))) (.node (o_61 p A P) (.node (o_78 p A P) (.node (o_114 p A P) (.node (o_180 p A P) (.node (o_320 p A P) .nil .nil) (.node (o_455 p A P) .nil .nil)) (.node (o_250 p A P) (.node (o_389 p A P) .nil .nil) .nil)) (.node (o_146 p A P) (.node (o_214 p A P) (.node (o_354 p A P) .nil .nil) .nil) (.node (o_284 p A P) (.node (o_423 p A P) .nil .nil) .nil))) (.node (o_96 p A P) (.node (o_130 p A P) (.node (o_198 p A P) (.node (o_338 p A P) .nil .nil) (.node (o_471 p A P) .nil .nil)) (.node (o_268 p A P) (.node (o_405 p A P) .nil .nil) .nil)) (.node (o_162 p A P) (.node (o_232 p A P) (.node (o_373 p A P) .nil .nil) .nil) (.node (o_302 p A P) (.node (o_439 p A P) .nil .nil) .nil))))) (.node (o_45 p A P) (.node (o_57 p A P) (.node (o_73 p A P) (.node (o_110 p A P) (.node (o_176 p A P) (.node (o_316 p A P) .nil .nil) (.node (o_451 p A P) .nil .nil)) (.node (o_246 p A P) (.node (o_385 p A P) .nil .nil) .nil)) (.node (o_142 p A P) (.node (o_210 p A P) (.node (o_350 p A P) .nil .nil) .nil) (.node (o_280 p A P) (.node (o_419 p A P) .nil .nil) .nil))) (.node (o_92 p A P) (.node (o_126 p A P) (.node (o_192 p A P) (.node (o_332 p A P) .nil .nil) (.node (o_467 p A P) .nil .nil)) (.node (o_262 p A P) (.node (o_401 p A P) .nil .nil) .nil)) (.node (o_158 p A P) (.node (o_228 p A P) (.node (o_369 p A P) .nil .nil) .nil) (.node (o_298 p A P) (.node (o_435 p A P) .nil .nil) .nil)))) (.node (o_65 p A P) (.node (o_82 p A P) (.node (o_118 p A P) (.node (o_184 p A P) (.node (o_324 p A P) .nil .nil) (.node (o_459 p A P) .nil .nil)) (.node (o_254 p A P) (.node (o_393 p A P) .nil .nil) .nil)) (.node (o_150 p A P) (.node (o_218 p A P) (.node (o_361 p A P) .nil .nil) .nil) (.node (o_290 p A P) (.node (o_427 p A P) .nil .nil) .nil))) (.node (o_100 p A P) (.node (o_134 p A P) (.node (o_202 p A P) (.node (o_342 p A P) .nil .nil) (.node (o_475 p A P) .nil .nil)) (.node (o_272 p A P) (.node (o_409 p A P) .nil .nil) .nil)) (.node (o_166 p A P) (.node (o_236 p A P) (.node (o_377 p A P) .nil .nil) .nil) (.node (o_306 p A P) (.node (o_443 p A P) .nil .nil) .nil))))))) (.node (boot_o_2 P) (.node (boot_o_4 P) (.node (boot_o_8 P) (.node (o_52 p A P) (.node (o_68 p A P) (.node (o_103 p A P) (.node (o_169 p A P) (.node (o_309 p A P) .nil .nil) (.node (o_446 p A P) .nil .nil)) (.node (o_239 p A P) (.node (o_380 p A P) .nil .nil) .nil)) (.node (o_137 p A P) (.node (o_205 p A P) (.node (o_345 p A P) .nil .nil) (.node (o_478 p A P) .nil .nil)) (.node (o_275 p A P) (.node (o_414 p A P) .nil .nil) .nil))) (.node (o_87 p A P) (.node (o_121 p A P) (.node (o_187 p A P) (.node (o_327 p A P) .nil .nil) (.node (o_462 p A P) .nil .nil)) (.node (o_257 p A P) (.node (o_396 p A P) .nil .nil) .nil)) (.node (o_153 p A P) (.node (o_223 p A P) (.node (o_364 p A P) .nil .nil) .nil) (.node (o_293 p A P) (.node (o_430 p A P) .nil .nil) .nil)))) (.node (o_60 p A P) (.node (o_77 p A P) (.node (o_113 p A P) (.node (o_179 p A P) (.node (o_319 p A P) .nil .nil) (.node (o_454 p A P) .nil .nil)) (.node (o_249 p A P) (.node (o_388 p A P) .nil .nil) .nil)) (.node (o_145 p A P) (.node (o_213 p A P) (.node (o_353 p A P) .nil .nil) .nil) (.node (o_283 p A P) (.node (o_422 p A P) .nil .nil) .nil))) (.node (o_95 p A P) (.node (o_129 p A P) (.node (o_195 p A P) (.node (o_337 p A P) .nil .nil) (.node (o_470 p A P) .nil .nil)) (.node (o_267 p A P) (.node (o_404 p A P) .nil .nil) .nil)) (.node (o_161 p A P) (.node (o_231 p A P) (.node (o_372 p A P) .nil .nil) .nil) (.node (o_301 p A P) (.node (o_438 p A P) .nil .nil) .nil))))) (.node (o_412 p A P) (.node (o_56 p A P) (.node (o_72 p A P) (.node (o_107 p A P) (.node (o_175 p A P) (.node (o_315 p A P) .nil .nil) (.node (o_450 p A P) .nil .nil)) (.node (o_245 p A P) (.node (o_384 p A P) .nil .nil) .nil)) (.node (o_141 p A P) (.node (o_209 p A P) (.node (o_349 p A P) .nil .nil) .nil) (.node (o_279 p A P) (.node (o_418 p A P) .nil .nil) .nil))) (.node (o_91 p A P) (.node (o_125 p A P) (.node (o_191 p A P) (.node (o_331 p A P) .nil .nil) (.node (o_466 p A P) .nil .nil)) (.node (o_261 p A P) (.node (o_400 p A P) .nil .nil) .nil)) (.node (o_157 p A P) (.node (o_227 p A P) (.node (o_368 p A P) .nil .nil) .nil) (.node (o_297 p A P) (.node (o_434 p A P) .nil .nil) .nil)))) (.node (o_64 p A P) (.node (o_81 p A P) (.node (o_117 p A P) (.node (o_183 p A P) (.node (o_323 p A P) .nil .nil) (.node (o_458 p A P) .nil .nil)) (.node (o_253 p A P) (.node (o_392 p A P) .nil .nil) .nil)) (.node (o_149 p A P) (.node (o_217 p A P) (.node (o_360 p A P) .nil .nil) .nil) (.node (o_287 p A P) (.node (o_426 p A P) .nil .nil) .nil))) (.node (o_99 p A P) (.node (o_133 p A P) (.node (o_201 p A P) (.node (o_341 p A P) .nil .nil) (.node (o_474 p A P) .nil .nil)) (.node (o_271 p A P) (.node (o_408 p A P) .nil .nil) .nil)) (.node (o_165 p A P) (.node (o_235 p A P) (.node (o_376 p A P) .nil .nil) .nil) (.node (o_305 p A P) (.node (o_442 p A P) .nil .nil) .nil)))))) (.node (boot_o_6 P) (.node (boot_o_10 P) (.node (o_54 p A P) (.node (o_70 p A P) (.node (o_105 p A P) (.node (o_171 p A P) (.node (o_313 p A P) .nil .nil) (.node (o_448 p A P) .nil .nil)) (.node (o_241 p A P) (.node (o_382 p A P) .nil .nil) .nil)) (.node (o_139 p A P) (.node (o_207 p A P) (.node (o_347 p A P) .nil .nil) (.node (o_480 p A P) .nil .nil)) (.node (o_277 p A P) (.node (o_416 p A P) .nil .nil) .nil))) (.node (o_89 p A P) (.node (o_123 p A P) (.node (o_189 p A P) (.node (o_329 p A P) .nil .nil) (.node (o_464 p A P) .nil .nil)) (.node (o_259 p A P) (.node (o_398 p A P) .nil .nil) .nil)) (.node (o_155 p A P) (.node (o_225 p A P) (.node (o_366 p A P) .nil .nil) .nil) (.node (o_295 p A P) (.node (o_432 p A P) .nil .nil) .nil)))) (.node (o_62 p A P) (.node (o_79 p A P) (.node (o_115 p A P) (.node (o_181 p A P) (.node (o_321 p A P) .nil .nil) (.node (o_456 p A P) .nil .nil)) (.node (o_251 p A P) (.node (o_390 p A P) .nil .nil) .nil)) (.node (o_147 p A P) (.node (o_215 p A P) (.node (o_355 p A P) .nil .nil) .nil) (.node (o_285 p A P) (.node (o_424 p A P) .nil .nil) .nil))) (.node (o_97 p A P) (.node (o_131 p A P) (.node (o_199 p A P) (.node (o_339 p A P) .nil .nil) (.node (o_472 p A P) .nil .nil)) (.node (o_269 p A P) (.node (o_406 p A P) .nil .nil) .nil)) (.node (o_163 p A P) (.node (o_233 p A P) (.node (o_374 p A P) .nil .nil) .nil) (.node (o_303 p A P) (.node (o_440 p A P) .nil .nil) .nil))))) (.node (o_46 p A P) (.node (o_58 p A P) (.node (o_74 p A P) (.node (o_111 p A P) (.node (o_177 p A P) (.node (o_317 p A P) .nil .nil) (.node (o_452 p A P) .nil .nil)) (.node (o_247 p A P) (.node (o_386 p A P) .nil .nil) .nil)) (.node (o_143 p A P) (.node (o_211 p A P) (.node (o_351 p A P) .nil .nil) .nil) (.node (o_281 p A P) (.node (o_420 p A P) .nil .nil) .nil))) (.node (o_93 p A P) (.node (o_127 p A P) (.node (o_193 p A P) (.node (o_333 p A P) .nil .nil) (.node (o_468 p A P) .nil .nil)) (.node (o_263 p A P) (.node (o_402 p A P) .nil .nil) .nil)) (.node (o_159 p A P) (.node (o_229 p A P) (.node (o_370 p A P) .nil .nil) .nil) (.node (o_299 p A P) (.node (o_436 p A P) .nil .nil) .nil)))) (.node (o_66 p A P) (.node (o_83 p A P) (.node (o_119 p A P) (.node (o_185 p A P) (.node (o_325 p A P) .nil .nil) (.node (o_460 p A P) .nil .nil)) (.node (o_255 p A P) (.node (o_394 p A P) .nil .nil) .nil)) (.node (o_151 p A P) (.node (o_221 p A P) (.node (o_362 p A P) .nil .nil) .nil) (.node (o_291 p A P) (.node (o_428 p A P) .nil .nil) .nil))) (.node (o_101 p A P) (.node (o_135 p A P) (.node (o_203 p A P) (.node (o_343 p A P) .nil .nil) (.node (o_476 p A P) .nil .nil)) (.node (o_273 p A P) (.node (o_410 p A P) .nil .nil) .nil)) (.node (o_167 p A P) (.node (o_237 p A P) (.node (o_378 p A P) .nil .nil) .nil) (.node (o_307 p A P) (.node (o_444 p A P) .nil .nil) .nil))))))))
noncomputable def tree_74 (p : Program) (A : At) (P : Params) : BT := (.node (boot_o_0 P) (.node (boot_o_1 P) (.node (o_49 p A P) (.node (boot_o_7 P) (.node (o_51 p A P) (.node (o_67 p A P) .nil .nil) .nil) (.node (o_59 p A P) .nil .nil)) (.node (o_43 p A P) (.node (o_55 p A P) (.node (o_71 p A P) .nil .nil) .nil) (.node (o_63 p A P) .nil .nil))) (.node (boot_o_5 P) (.node (boot_o_9 P) (.node (o_53 p A P) (.node (o_69 p A P) .nil .nil) .nil) (.node (o_61 p A P) .nil .nil)) (.node (o_45 p A P) (.node (o_57 p A P) (.node (o_73 p A P) .nil .nil) .nil) (.node (o_65 p A P) .nil .nil)))) (.node (boot_o_2 P) (.node (boot_o_4 P) (.node (boot_o_8 P) (.node (o_52 p A P) (.node (o_68 p A P) .nil .nil) .nil) (.node (o_60 p A P) .nil .nil)) (.node (o_50 p A P) (.node (o_56 p A P) (.node (o_72 p A P) .nil .nil) .nil) (.node (o_64 p A P) .nil .nil))) (.node (boot_o_6 P) (.node (boot_o_10 P) (.node (o_54 p A P) (.node (o_70 p A P) .nil .nil) .nil) (.node (o_62 p A P) .nil .nil)) (.node (o_46 p A P) (.node (o_58 p A P) (.node (o_74 p A P) .nil .nil) .nil) (.node (o_66 p A P) .nil .nil)))))
noncomputable def tree_84 (p : Program) (A : At) (P : Params) : BT := (.node (boot_o_0 P) (.node (boot_o_1 P) (.node (o_75 p A P) (.node (boot_o_7 P) (.node (o_51 p A P) (.node (o_67 p A P) .nil .nil) (.node (o_84 p A P) .nil .nil)) (.node (o_59 p A P) (.node (o_76 p A P) .nil .nil) .nil)) (.node (o_43 p A P) (.node (o_55 p A P) (.node (o_71 p A P) .nil .nil) .nil) (.node (o_63 p A P) (.node (o_80 p A P) .nil .nil) .nil))) (.node (boot_o_5 P) (.node (boot_o_9 P) (.node (o_53 p A P) (.node (o_69 p A P) .nil .nil) .nil) (.node (o_61 p A P) (.node (o_78 p A P) .nil .nil) .nil)) (.node (o_45 p A P) (.node (o_57 p A P) (.node (o_73 p A P) .nil .nil) .nil) (.node (o_65 p A P) (.node (o_82 p A P) .nil .nil) .nil)))) (.node (boot_o_2 P) (.node (boot_o_4 P) (.node (boot_o_8 P) (.node (o_52 p A P) (.node (o_68 p A P) .nil .nil) .nil) (.node (o_60 p A P) (.node (o_77 p A P) .nil .nil) .nil)) (.node (o_50 p A P) (.node (o_56 p A P) (.node (o_72 p A P) .nil .nil) .nil) (.node (o_64 p A P) (.node (o_81 p A P) .nil .nil) .nil))) (.node (boot_o_6 P) (.node (boot_o_10 P) (.node (o_54 p A P) (.node (o_70 p A P) .nil .nil) .nil) (.node (o_62 p A P) (.node (o_79 p A P) .nil .nil) .nil)) (.node (o_46 p A P) (.node (o_58 p A P) (.node (o_74 p A P) .nil .nil) .nil) (.node (o_66 p A P) (.node (o_83 p A P) .nil .nil) .nil)))))
noncomputable abbrev SegF := (String → Option Builtin) → Program → World → Nat → Option Value → Nat → Nat → SharedT → Thread → Option (Flow × SharedT × Code × Pos)
noncomputable def envE (p : Program) : Env := { scope := p.main.scope, locals := mainNs, globals := mainNs, cells := [], code := .ref 13, frame := some 14 }
noncomputable def cE (p : Program) : Code := .body (behindTheImports p) (envE p)
noncomputable def stsE (p : Program) (i n : Nat) : List Stmt := ((behindTheImports p).drop i).take n
noncomputable def BE : List Frame := [topFrame ⟨0, 0, 0, 0⟩]
noncomputable def StT (T : BT) (n k : Nat) (os : OsState) : SharedT := ⟨T, n, {}, ⟨[]⟩, {}, k, os⟩
noncomputable def Pc (f : SegF) (tb : String → Option Builtin) (p : Program) (T T' : Params → BT) (n n' k k' steps i m : Nat) (q q' : Pos) : Prop :=
  ∀ w : World, (fun os => f tb p w 11 (some (.ref 6)) 1 steps (StT (T w.params) n k os) (piecesOf (stsE p i m) (envE p) (cE p) q BE)) = fun os => some (.next, StT (T' w.params) n' k' os, cE p, q')
noncomputable abbrev twp : Program := PySem.W.Fast.tw3254681413853360776
theorem Pc.real {T T' : Params → BT} {n n' k k' steps i m : Nat} {q q' : Pos} (h : Pc PySem.W.Fast.tw10110043849684766642 PySem.W.Fast.tw14364793385576792824 twp T T' n n' k k' steps i m q q') :
    Pc segRunT treeTable PySem.Challenge.pw_nt0165_01 T T' n n' k k' steps i m q q' := by
  rw [PySem.W.Fast.te10110043849684766642, PySem.W.Fast.te14364793385576792824, PySem.W.Fast.te3254681413853360776]; exact h
theorem pc0 : Pc PySem.W.Fast.tw10110043849684766642 PySem.W.Fast.tw14364793385576792824 twp (fun P => tree_47 twp fsS P) (fun P => tree_74 twp fsS P) 15 39 187 224 335 0 3 ⟨0, 0, 0, 0⟩ ⟨6, 0, 6, 5⟩ := by
  intro w; kernel_rfl
theorem pc1 : Pc PySem.W.Fast.tw10110043849684766642 PySem.W.Fast.tw14364793385576792824 twp (fun P => tree_74 twp fsS P) (fun P => tree_84 twp fsS P) 39 48 224 242 310 3 3 ⟨6, 0, 6, 5⟩ ⟨9, 0, 9, 3⟩ := by
  intro w; kernel_rfl
theorem pc2 : Pc PySem.W.Fast.tw10110043849684766642 PySem.W.Fast.tw14364793385576792824 twp (fun P => tree_84 twp fsS P) (fun P => tree_107 twp fsS P) 48 69 242 273 225 6 1 ⟨9, 0, 9, 3⟩ ⟨10, 0, 14, 24⟩ := by
  intro w; kernel_rfl
theorem pc3 : Pc PySem.W.Fast.tw10110043849684766642 PySem.W.Fast.tw14364793385576792824 twp (fun P => tree_107 twp fsS P) (fun P => tree_172 twp fsS P) 69 132 273 351 416 7 1 ⟨10, 0, 14, 24⟩ ⟨15, 0, 44, 29⟩ := by
  intro w; kernel_rfl
theorem pc4 : Pc PySem.W.Fast.tw10110043849684766642 PySem.W.Fast.tw14364793385576792824 twp (fun P => tree_172 twp fsS P) (fun P => tree_195 twp fsS P) 132 153 351 382 225 8 1 ⟨15, 0, 44, 29⟩ ⟨45, 0, 49, 22⟩ := by
  intro w; kernel_rfl
theorem pc5 : Pc PySem.W.Fast.tw10110043849684766642 PySem.W.Fast.tw14364793385576792824 twp (fun P => tree_195 twp fsS P) (fun P => tree_218 twp fsS P) 153 174 382 411 223 9 1 ⟨45, 0, 49, 22⟩ ⟨50, 0, 53, 24⟩ := by
  intro w; kernel_rfl
theorem pc6 : Pc PySem.W.Fast.tw10110043849684766642 PySem.W.Fast.tw14364793385576792824 twp (fun P => tree_218 twp fsS P) (fun P => tree_241 twp fsS P) 174 195 411 440 223 10 1 ⟨50, 0, 53, 24⟩ ⟨54, 0, 57, 26⟩ := by
  intro w; kernel_rfl
theorem pc7 : Pc PySem.W.Fast.tw10110043849684766642 PySem.W.Fast.tw14364793385576792824 twp (fun P => tree_241 twp fsS P) (fun P => tree_264 twp fsS P) 195 216 440 469 223 11 1 ⟨54, 0, 57, 26⟩ ⟨58, 0, 61, 28⟩ := by
  intro w; kernel_rfl
theorem pc8 : Pc PySem.W.Fast.tw10110043849684766642 PySem.W.Fast.tw14364793385576792824 twp (fun P => tree_264 twp fsS P) (fun P => tree_287 twp fsS P) 216 237 469 498 223 12 1 ⟨58, 0, 61, 28⟩ ⟨62, 0, 65, 30⟩ := by
  intro w; kernel_rfl
theorem pc9 : Pc PySem.W.Fast.tw10110043849684766642 PySem.W.Fast.tw14364793385576792824 twp (fun P => tree_287 twp fsS P) (fun P => tree_310 twp fsS P) 237 258 498 529 225 13 1 ⟨62, 0, 65, 30⟩ ⟨66, 0, 70, 30⟩ := by
  intro w; kernel_rfl
theorem pc10 : Pc PySem.W.Fast.tw10110043849684766642 PySem.W.Fast.tw14364793385576792824 twp (fun P => tree_310 twp fsS P) (fun P => tree_333 twp fsS P) 258 279 529 558 223 14 1 ⟨66, 0, 70, 30⟩ ⟨71, 0, 74, 28⟩ := by
  intro w; kernel_rfl
theorem pc11 : Pc PySem.W.Fast.tw10110043849684766642 PySem.W.Fast.tw14364793385576792824 twp (fun P => tree_333 twp fsS P) (fun P => tree_356 twp fsS P) 279 300 558 587 223 15 1 ⟨71, 0, 74, 28⟩ ⟨75, 0, 78, 26⟩ := by
  intro w; kernel_rfl
theorem pc12 : Pc PySem.W.Fast.tw10110043849684766642 PySem.W.Fast.tw14364793385576792824 twp (fun P => tree_356 twp fsS P) (fun P => tree_410 twp fsS P) 300 351 587 654 397 16 6 ⟨75, 0, 78, 26⟩ ⟨105, 0, 107, 44⟩ := by
  intro w; kernel_rfl
theorem pc13 : Pc PySem.W.Fast.tw10110043849684766642 PySem.W.Fast.tw14364793385576792824 twp (fun P => tree_410 twp fsS P) (fun P => tree_481 twp fsS P) 351 420 654 730 318 22 12 ⟨105, 0, 107, 44⟩ ⟨208, 0, 215, 37⟩ := by
  intro w; kernel_rfl
noncomputable abbrev TopF := (String → Option Builtin) → Program → World → Nat → Option Value → Nat → Shared → Thread → Option Shared
noncomputable def SH (h : Heap) (k : Nat) (os : OsState) : Shared := { heap := h, gens := ⟨[]⟩, drawn := {}, toks := k, os := os }
noncomputable def FinP (f : TopF) (tb : String → Option Builtin) (p : Program) : Prop :=
  ∀ w : World, (fun os => f tb p w 11 (some (.ref 6)) 2 (StT (tree_481 twp fsS w.params) 420 730 os).abs ⟨doneF .next, cE p, ⟨208, 0, 215, 37⟩, BE⟩) = fun os => some (SH (heap_482 twp fsS w.params) 730 os)
theorem fin_fast : FinP PySem.W.Fast.tw14082659384304107361 PySem.W.Fast.tw14364793385576792824 twp := by intro w; kernel_rfl
theorem fin_real : FinP topRun treeTable PySem.Challenge.pw_nt0165_01 := by
  rw [PySem.W.Fast.te14082659384304107361, PySem.W.Fast.te14364793385576792824, PySem.W.Fast.te3254681413853360776]; exact fin_fast
noncomputable abbrev GoF := (String → Option Builtin) → Program → World → Nat → Option Value → Nat → Shared → Thread → Option (Shared × Thread)
noncomputable def PreP (f : GoF) (d : (String → Option Builtin) → Code → Sem Fin) (tb : String → Option Builtin) (p : Program) : Prop :=
  ∀ w : World, (fun os => f tb p w 11 (some (.ref 6)) 12 { heap := boot_heap w.params, gens := ⟨[]⟩, drawn := boot_drawn, toks := boot_toks, os := os } (topStub p)) = fun os => some (SH (heap_46 twp fsS w.params) 187 os, ⟨d tb (cE p), cE p, ⟨0, 0, 0, 0⟩, BE⟩)
theorem pre_fast : PreP PySem.W.Fast.tw15667345088766844465 PySem.W.Fast.tw11892475500146522536 PySem.W.Fast.tw14364793385576792824 twp := by intro w; kernel_rfl
theorem pre_real : PreP topGo denote treeTable PySem.Challenge.pw_nt0165_01 := by
  rw [PySem.W.Fast.te15667345088766844465, PySem.W.Fast.te11892475500146522536, PySem.W.Fast.te14364793385576792824, PySem.W.Fast.te3254681413853360776]; exact pre_fast
noncomputable abbrev SegS := (String → Option Builtin) → Program → World → Nat → Option Value → Nat → Nat → Shared → Thread → Option (Flow × Shared × Code × Pos)
noncomputable def BlkP (f : SegS) (tb : String → Option Builtin) (p : Program) : Prop :=
  ∀ w : World, (fun os => f tb p w 11 (some (.ref 6)) 1 1 (SH (heap_46 twp fsS w.params) 187 os) (blockOf (behindTheImports p) (envE p) (cE p) ⟨0, 0, 0, 0⟩ BE)) = fun os => some (.next, (StT (tree_47 twp fsS w.params) 15 187 os).abs, cE p, ⟨0, 0, 0, 0⟩)
theorem blk_fast : BlkP PySem.W.Fast.tw14374325043358763698 PySem.W.Fast.tw14364793385576792824 twp := by intro w; kernel_rfl
theorem blk_real : BlkP segRun treeTable PySem.Challenge.pw_nt0165_01 := by
  rw [PySem.W.Fast.te14374325043358763698, PySem.W.Fast.te14364793385576792824, PySem.W.Fast.te3254681413853360776]; exact blk_fast
theorem body_cut : behindTheImports PySem.Challenge.pw_nt0165_01 = stsE PySem.Challenge.pw_nt0165_01 0 3 ++ (stsE PySem.Challenge.pw_nt0165_01 3 3 ++ (stsE PySem.Challenge.pw_nt0165_01 6 1 ++ (stsE PySem.Challenge.pw_nt0165_01 7 1 ++ (stsE PySem.Challenge.pw_nt0165_01 8 1 ++ (stsE PySem.Challenge.pw_nt0165_01 9 1 ++ (stsE PySem.Challenge.pw_nt0165_01 10 1 ++ (stsE PySem.Challenge.pw_nt0165_01 11 1 ++ (stsE PySem.Challenge.pw_nt0165_01 12 1 ++ (stsE PySem.Challenge.pw_nt0165_01 13 1 ++ (stsE PySem.Challenge.pw_nt0165_01 14 1 ++ (stsE PySem.Challenge.pw_nt0165_01 15 1 ++ (stsE PySem.Challenge.pw_nt0165_01 16 6 ++ (stsE PySem.Challenge.pw_nt0165_01 22 12 ++ ([])))))))))))))) := by kernel_rfl
theorem run_real (w : World) (os : OsState) : topRun treeTable PySem.Challenge.pw_nt0165_01 w 11 (some (.ref 6)) (12 + (1 + (335 + (310 + (225 + (416 + (225 + (223 + (223 + (223 + (223 + (225 + (223 + (223 + (397 + (318 + 2)))))))))))))))) { heap := boot_heap w.params, gens := ⟨[]⟩, drawn := boot_drawn, toks := boot_toks, os := os } (topStub PySem.Challenge.pw_nt0165_01) = some (SH (heap_482 twp fsS w.params) 730 os) := by
  have r := piece_nil (env := envE PySem.Challenge.pw_nt0165_01) (congrFun (fin_real w) os)
  replace r := piece_app (segRun_of (congrFun ((pc13).real w) os)) r
  replace r := piece_app (segRun_of (congrFun ((pc12).real w) os)) r
  replace r := piece_app (segRun_of (congrFun ((pc11).real w) os)) r
  replace r := piece_app (segRun_of (congrFun ((pc10).real w) os)) r
  replace r := piece_app (segRun_of (congrFun ((pc9).real w) os)) r
  replace r := piece_app (segRun_of (congrFun ((pc8).real w) os)) r
  replace r := piece_app (segRun_of (congrFun ((pc7).real w) os)) r
  replace r := piece_app (segRun_of (congrFun ((pc6).real w) os)) r
  replace r := piece_app (segRun_of (congrFun ((pc5).real w) os)) r
  replace r := piece_app (segRun_of (congrFun ((pc4).real w) os)) r
  replace r := piece_app (segRun_of (congrFun ((pc3).real w) os)) r
  replace r := piece_app (segRun_of (congrFun ((pc2).real w) os)) r
  replace r := piece_app (segRun_of (congrFun ((pc1).real w) os)) r
  replace r := piece_app (segRun_of (congrFun ((pc0).real w) os)) r
  rw [← body_cut] at r
  exact go_top (congrFun (pre_real w) os) (piece_block (congrFun (blk_real w) os) r)
end Mine
end
section
open PySem PySem.W PyProof.Rows
namespace Mine
noncomputable def keepL : List Nat := [1, 2, 3, 4, 5, 6, 7, 8, 9, 10, 11, 12, 13, 14, 15, 16, 17, 18, 20, 21, 22, 23, 24, 25, 26, 27, 29, 30, 31, 32, 33]
noncomputable def addrsL : List Addr := [2, 3, 22, 24, 25, 27, 28, 29, 30, 31, 32, 33, 36, 37, 39, 40, 42, 43, 45, 46, 55, 57, 58, 60, 61, 62, 63, 64, 65, 66, 76, 78, 79, 81, 82, 83, 85, 86, 88, 89, 90, 92, 93, 95, 96, 97, 99, 100, 102, 103, 104, 106, 107, 109, 110, 111, 113, 114, 116, 117, 118, 120, 121, 123, 124, 125, 126, 127, 128, 129, 139, 141, 142, 144, 145, 146, 147, 148, 149, 150, 160, 162, 163, 165, 166, 167, 168, 169, 170, 171, 181, 183, 184, 186, 187, 188, 189, 190, 191, 192, 202, 204, 205, 207, 208, 209, 210, 211, 212, 213, 223, 225, 226, 228, 229, 230, 231, 232, 233, 234, 244, 246, 247, 249, 250, 251, 252, 253, 254, 255, 265, 267, 268, 270, 271, 272, 273, 274, 275, 276, 286, 288, 289, 291, 292, 293, 294, 295, 296, 297, 300, 307, 309, 310, 312, 313, 314, 315, 316, 319, 322, 323, 324, 327, 328, 329, 330, 332, 333, 335, 336, 337, 339, 340, 342, 343, 344, 346, 347, 349, 350, 351, 353, 354, 356, 357, 358, 360, 361, 363, 364, 365, 367, 368, 370, 371, 372, 374, 375, 377, 378, 379, 381, 382, 384, 385, 386, 388, 389, 391, 392, 393, 395, 396, 398, 399, 400, 403, 404, 405, 408, 409, 410, 413, 414, 415, 418, 419]
noncomputable def Kof (p : Program) (A : At) (P : Params) : Frag := [(nat_lit 2, boot_o_2 P), (nat_lit 3, o_411 p A P), (nat_lit 22, o_58 p A P), (nat_lit 24, o_60 p A P), (nat_lit 25, o_61 p A P), (nat_lit 27, o_63 p A P), (nat_lit 28, o_64 p A P), (nat_lit 29, o_65 p A P), (nat_lit 30, o_66 p A P), (nat_lit 31, o_67 p A P), (nat_lit 32, o_68 p A P), (nat_lit 33, o_69 p A P), (nat_lit 36, o_72 p A P), (nat_lit 37, o_73 p A P), (nat_lit 39, o_76 p A P), (nat_lit 40, o_77 p A P), (nat_lit 42, o_79 p A P), (nat_lit 43, o_80 p A P), (nat_lit 45, o_82 p A P), (nat_lit 46, o_83 p A P), (nat_lit 55, o_94 p A P), (nat_lit 57, o_96 p A P), (nat_lit 58, o_97 p A P), (nat_lit 60, o_99 p A P), (nat_lit 61, o_100 p A P), (nat_lit 62, o_101 p A P), (nat_lit 63, o_102 p A P), (nat_lit 64, o_103 p A P), (nat_lit 65, o_104 p A P), (nat_lit 66, o_105 p A P), (nat_lit 76, o_117 p A P), (nat_lit 78, o_119 p A P), (nat_lit 79, o_120 p A P), (nat_lit 81, o_122 p A P), (nat_lit 82, o_123 p A P), (nat_lit 83, o_124 p A P), (nat_lit 85, o_126 p A P), (nat_lit 86, o_127 p A P), (nat_lit 88, o_129 p A P), (nat_lit 89, o_130 p A P), (nat_lit 90, o_131 p A P), (nat_lit 92, o_133 p A P), (nat_lit 93, o_134 p A P), (nat_lit 95, o_136 p A P), (nat_lit 96, o_137 p A P), (nat_lit 97, o_138 p A P), (nat_lit 99, o_140 p A P), (nat_lit 100, o_141 p A P), (nat_lit 102, o_143 p A P), (nat_lit 103, o_144 p A P), (nat_lit 104, o_145 p A P), (nat_lit 106, o_147 p A P), (nat_lit 107, o_148 p A P), (nat_lit 109, o_150 p A P), (nat_lit 110, o_151 p A P), (nat_lit 111, o_152 p A P), (nat_lit 113, o_154 p A P), (nat_lit 114, o_155 p A P), (nat_lit 116, o_157 p A P), (nat_lit 117, o_158 p A P), (nat_lit 118, o_159 p A P), (nat_lit 120, o_161 p A P), (nat_lit 121, o_162 p A P), (nat_lit 123, o_164 p A P), (nat_lit 124, o_165 p A P), (nat_lit 125, o_166 p A P), (nat_lit 126, o_167 p A P), (nat_lit 127, o_168 p A P), (nat_lit 128, o_169 p A P), (nat_lit 129, o_170 p A P), (nat_lit 139, o_182 p A P), (nat_lit 141, o_184 p A P), (nat_lit 142, o_185 p A P), (nat_lit 144, o_187 p A P), (nat_lit 145, o_188 p A P), (nat_lit 146, o_189 p A P), (nat_lit 147, o_190 p A P), (nat_lit 148, o_191 p A P), (nat_lit 149, o_192 p A P), (nat_lit 150, o_193 p A P), (nat_lit 160, o_205 p A P), (nat_lit 162, o_207 p A P), (nat_lit 163, o_208 p A P), (nat_lit 165, o_210 p A P), (nat_lit 166, o_211 p A P), (nat_lit 167, o_212 p A P), (nat_lit 168, o_213 p A P), (nat_lit 169, o_214 p A P), (nat_lit 170, o_215 p A P), (nat_lit 171, o_216 p A P), (nat_lit 181, o_228 p A P), (nat_lit 183, o_230 p A P), (nat_lit 184, o_231 p A P), (nat_lit 186, o_233 p A P), (nat_lit 187, o_234 p A P), (nat_lit 188, o_235 p A P), (nat_lit 189, o_236 p A P), (nat_lit 190, o_237 p A P), (nat_lit 191, o_238 p A P), (nat_lit 192, o_239 p A P), (nat_lit 202, o_251 p A P), (nat_lit 204, o_253 p A P), (nat_lit 205, o_254 p A P), (nat_lit 207, o_256 p A P), (nat_lit 208, o_257 p A P), (nat_lit 209, o_258 p A P), (nat_lit 210, o_259 p A P), (nat_lit 211, o_260 p A P), (nat_lit 212, o_261 p A P), (nat_lit 213, o_262 p A P), (nat_lit 223, o_274 p A P), (nat_lit 225, o_276 p A P), (nat_lit 226, o_277 p A P), (nat_lit 228, o_279 p A P), (nat_lit 229, o_280 p A P), (nat_lit 230, o_281 p A P), (nat_lit 231, o_282 p A P), (nat_lit 232, o_283 p A P), (nat_lit 233, o_284 p A P), (nat_lit 234, o_285 p A P), (nat_lit 244, o_297 p A P), (nat_lit 246, o_299 p A P), (nat_lit 247, o_300 p A P), (nat_lit 249, o_302 p A P), (nat_lit 250, o_303 p A P), (nat_lit 251, o_304 p A P), (nat_lit 252, o_305 p A P), (nat_lit 253, o_306 p A P), (nat_lit 254, o_307 p A P), (nat_lit 255, o_308 p A P), (nat_lit 265, o_320 p A P), (nat_lit 267, o_322 p A P), (nat_lit 268, o_323 p A P), (nat_lit 270, o_325 p A P), (nat_lit 271, o_326 p A P), (nat_lit 272, o_327 p A P), (nat_lit 273, o_328 p A P), (nat_lit 274, o_329 p A P), (nat_lit 275, o_330 p A P), (nat_lit 276, o_331 p A P), (nat_lit 286, o_343 p A P), (nat_lit 288, o_345 p A P), (nat_lit 289, o_346 p A P), (nat_lit 291, o_348 p A P), (nat_lit 292, o_349 p A P), (nat_lit 293, o_350 p A P), (nat_lit 294, o_351 p A P), (nat_lit 295, o_359 p A P), (nat_lit 296, o_353 p A P), (nat_lit 297, o_354 p A P), (nat_lit 300, o_360 p A P), (nat_lit 307, o_367 p A P), (nat_lit 309, o_369 p A P), (nat_lit 310, o_370 p A P), (nat_lit 312, o_372 p A P), (nat_lit 313, o_373 p A P), (nat_lit 314, o_374 p A P), (nat_lit 315, o_375 p A P), (nat_lit 316, o_376 p A P), (nat_lit 319, o_379 p A P), (nat_lit 322, o_382 p A P), (nat_lit 323, o_383 p A P), (nat_lit 324, o_384 p A P), (nat_lit 327, o_387 p A P), (nat_lit 328, o_388 p A P), (nat_lit 329, o_389 p A P), (nat_lit 330, o_390 p A P), (nat_lit 332, o_392 p A P), (nat_lit 333, o_393 p A P), (nat_lit 335, o_395 p A P), (nat_lit 336, o_396 p A P), (nat_lit 337, o_397 p A P), (nat_lit 339, o_399 p A P), (nat_lit 340, o_400 p A P), (nat_lit 342, o_402 p A P), (nat_lit 343, o_403 p A P), (nat_lit 344, o_404 p A P), (nat_lit 346, o_406 p A P), (nat_lit 347, o_407 p A P), (nat_lit 349, o_409 p A P), (nat_lit 350, o_410 p A P), (nat_lit 351, o_413 p A P), (nat_lit 353, o_415 p A P), (nat_lit 354, o_416 p A P), (nat_lit 356, o_418 p A P), (nat_lit 357, o_419 p A P), (nat_lit 358, o_420 p A P), (nat_lit 360, o_422 p A P), (nat_lit 361, o_423 p A P), (nat_lit 363, o_425 p A P), (nat_lit 364, o_426 p A P), (nat_lit 365, o_427 p A P), (nat_lit 367, o_429 p A P), (nat_lit 368, o_430 p A P), (nat_lit 370, o_432 p A P), (nat_lit 371, o_433 p A P), (nat_lit 372, o_434 p A P), (nat_lit 374, o_436 p A P), (nat_lit 375, o_437 p A P), (nat_lit 377, o_439 p A P), (nat_lit 378, o_440 p A P), (nat_lit 379, o_441 p A P), (nat_lit 381, o_443 p A P), (nat_lit 382, o_444 p A P), (nat_lit 384, o_446 p A P), (nat_lit 385, o_447 p A P), (nat_lit 386, o_448 p A P), (nat_lit 388, o_450 p A P), (nat_lit 389, o_451 p A P), (nat_lit 391, o_453 p A P), (nat_lit 392, o_454 p A P), (nat_lit 393, o_455 p A P), (nat_lit 395, o_457 p A P), (nat_lit 396, o_458 p A P), (nat_lit 398, o_460 p A P), (nat_lit 399, o_461 p A P), (nat_lit 400, o_462 p A P), (nat_lit 403, o_465 p A P), (nat_lit 404, o_466 p A P), (nat_lit 405, o_467 p A P), (nat_lit 408, o_470 p A P), (nat_lit 409, o_471 p A P), (nat_lit 410, o_472 p A P), (nat_lit 413, o_475 p A P), (nat_lit 414, o_476 p A P), (nat_lit 415, o_477 p A P), (nat_lit 418, o_480 p A P), (nat_lit 419, o_481 p A P)]
noncomputable def q : Program := view PySem.Challenge.pw_nt0165_01 keepL
noncomputable def qf : Program := view twp keepL
theorem q_eq : q = qf := congrArg (fun p => view p keepL) PySem.W.Fast.te3254681413853360776
noncomputable def looseL : List Str := [PySem.Str.ofString "EMPTY", PySem.Str.ofString "UNSPECIFIED", PySem.Str.ofString "UNASSIGNED", PySem.Str.ofString "EOF", PySem.Str.ofString "list_of"]
noncomputable def looseF : List Str := [⟨⟨[69, 77, 80, 84, 89]⟩⟩, ⟨⟨[85, 78, 83, 80, 69, 67, 73, 70, 73, 69, 68]⟩⟩, ⟨⟨[85, 78, 65, 83, 83, 73, 71, 78, 69, 68]⟩⟩, ⟨⟨[69, 79, 70]⟩⟩, ⟨⟨[108, 105, 115, 116, 95, 111, 102]⟩⟩]
theorem le0 : PySem.Str.ofString "EMPTY" = (⟨⟨[69, 77, 80, 84, 89]⟩⟩ : Str) := PySem.W.Fast.ofString_ofList [Char.ofNat 69, Char.ofNat 77, Char.ofNat 80, Char.ofNat 84, Char.ofNat 89]
theorem le1 : PySem.Str.ofString "UNSPECIFIED" = (⟨⟨[85, 78, 83, 80, 69, 67, 73, 70, 73, 69, 68]⟩⟩ : Str) := PySem.W.Fast.ofString_ofList [Char.ofNat 85, Char.ofNat 78, Char.ofNat 83, Char.ofNat 80, Char.ofNat 69, Char.ofNat 67, Char.ofNat 73, Char.ofNat 70, Char.ofNat 73, Char.ofNat 69, Char.ofNat 68]
theorem le2 : PySem.Str.ofString "UNASSIGNED" = (⟨⟨[85, 78, 65, 83, 83, 73, 71, 78, 69, 68]⟩⟩ : Str) := PySem.W.Fast.ofString_ofList [Char.ofNat 85, Char.ofNat 78, Char.ofNat 65, Char.ofNat 83, Char.ofNat 83, Char.ofNat 73, Char.ofNat 71, Char.ofNat 78, Char.ofNat 69, Char.ofNat 68]
theorem le3 : PySem.Str.ofString "EOF" = (⟨⟨[69, 79, 70]⟩⟩ : Str) := PySem.W.Fast.ofString_ofList [Char.ofNat 69, Char.ofNat 79, Char.ofNat 70]
theorem le4 : PySem.Str.ofString "list_of" = (⟨⟨[108, 105, 115, 116, 95, 111, 102]⟩⟩ : Str) := PySem.W.Fast.ofString_ofList [Char.ofNat 108, Char.ofNat 105, Char.ofNat 115, Char.ofNat 116, Char.ofNat 95, Char.ofNat 111, Char.ofNat 102]
theorem loose_eq : looseL = looseF := by unfold looseL looseF; rw [le0, le1, le2, le3, le4]
theorem K_eq : Kof PySem.Challenge.pw_nt0165_01 ofS = Kof twp fsS := by rw [PySem.W.Fast.te3254681413853360776, ofS_eq]
theorem an_eq : PySem.Str.ofString "__annotations__" = (⟨⟨[95, 95, 97, 110, 110, 111, 116, 97, 116, 105, 111, 110, 115, 95, 95]⟩⟩ : Str) := PySem.W.Fast.ofString_ofList [Char.ofNat 95, Char.ofNat 95, Char.ofNat 97, Char.ofNat 110, Char.ofNat 110, Char.ofNat 111, Char.ofNat 116, Char.ofNat 97, Char.ofNat 116, Char.ofNat 105, Char.ofNat 111, Char.ofNat 110, Char.ofNat 115, Char.ofNat 95, Char.ofNat 95]
theorem size_real (w : World) : ((boot_heap w.params).isNs mainGlobals && (⟨[]⟩ : Array GenState).size == 0, (boot_heap w.params).objs.size, (boot_heap w.params).nsMap mainGlobals (PySem.Str.ofString "__annotations__")) = (true, 11, some (.ref 6)) := by
  rw [PySem.W.Fast.te8920871248978507458, an_eq]; kernel_rfl
noncomputable abbrev SE (w : World) (os : OsState) : Shared := SH (heap_482 twp fsS w.params) 730 os
noncomputable abbrev XT : Shared → Bool := fun s => xlAt q [] s && recOk [] s
theorem lk0 (w : World) (os : OsState) : (staticsOk (importedModules PySem.Challenge.pw_nt0165_01.main.body) (boot_heap w.params) (SE w os).heap && namesBound PySem.Challenge.pw_nt0165_01 (SE w os).heap && gensDone (SE w os) && laidKept (boot_heap w.params) (SE w os).heap) = true := by
  rw [PySem.W.Fast.te5923862056798008813, PySem.W.Fast.te3254681413853360776]; kernel_rfl
theorem lk1 (w : World) (os : OsState) : seen ((recsOf q).map (·.name)) (ownsOf q) [] { SE w os with gens := #[] } = expectedOf q := by
  rw [PySem.W.Fast.te5160383126252970620, PySem.W.Fast.te3399658132070893891, PySem.W.Fast.te5991557255702980513, q_eq]; kernel_rfl
theorem lk2 (w : World) (os : OsState) : (SE w os).heap.bltView = bltViewBooted := by kernel_rfl
theorem lk3 (w : World) (os : OsState) : ((SE w os).heap.keysOk (looseW q looseL) ((recsOf q).map (·.name)) ((litsOf q).map (·.1)) ((clssOf q (looseW q looseL)).map (·.name)) && (SE w os).heap.accountedOkI (importedModules PySem.Challenge.pw_nt0165_01.main.body) && (SE w os).heap.isNs mainGlobals && (SE w os).heap.isNs builtinsNs && tablesOk q (SE w os).heap && XT (SE w os) && (if true then (SE w os).gens.size == 0 else !leftWithCleanup (SE w os).gens)) = true := by
  unfold XT; rw [PySem.W.Fast.te10880121769531294198, PySem.W.Fast.te821141287760084731, PySem.W.Fast.te3399658132070893891, PySem.W.Fast.te7409074990110511671, PySem.W.Fast.te13664370479719496447, PySem.W.Fast.te14722251495701143533, PySem.W.Fast.te5923862056798008813, PySem.W.Fast.te10994771534591457954, q_eq, loose_eq, PySem.W.Fast.te3254681413853360776]; kernel_rfl
theorem lk4 (w : World) (os : OsState) : tabsOk q (SE w os) = true := by
  rw [PySem.W.Fast.te479339242167458305, q_eq]; kernel_rfl
theorem lk5 (w : World) (os : OsState) : pinSeenD q (drecsOf q) (SE w os) = pinGoodD (drecsOf q) := by
  rw [PySem.W.Fast.te16090120013241838585, PySem.W.Fast.te3247288618530077131, q_eq]; kernel_rfl
theorem lk6 (w : World) (os : OsState) : plainSeenE q (looseW q looseL) (SE w os) = plainGoodE q (looseW q looseL) := by
  rw [PySem.W.Fast.te2386780881361962483, PySem.W.Fast.te821141287760084731, q_eq, loose_eq]; kernel_rfl
theorem lk7 (w : World) (os : OsState) : plainSeenD q looseL (SE w os) = plainGoodD q looseL := by
  rw [PySem.W.Fast.te11698064438423848299, q_eq, loose_eq]; kernel_rfl
theorem lk8 (w : World) (os : OsState) : wideSeen q (SE w os) = wideGood q := by
  rw [PySem.W.Fast.te7317090234206586261, q_eq]; kernel_rfl
theorem lk9 (w : World) (os : OsState) : clsSeenW q looseL (SE w os) = clsGoodW q looseL := by
  rw [PySem.W.Fast.te7369524293546568484, q_eq, loose_eq]; kernel_rfl
theorem lkK (w : World) (os : OsState) : addrsL.map (SE w os).heap.get? = (Kof PySem.Challenge.pw_nt0165_01 ofS w.params).map (fun p => some p.2) := by
  rw [K_eq]; kernel_rfl
theorem KA (P : Params) : addrsL = (Kof PySem.Challenge.pw_nt0165_01 ofS P).map (·.1) := by kernel_rfl
end Mine
end
section
open PySem PySem.W PyProof.Rows
namespace Mine
theorem open_plain : opening PySem.Challenge.pw_nt0165_01 = plainProg (PySem.Challenge.pw_nt0165_01).main.scope.names := by kernel_rfl
theorem fence_plain (s : Shared) : fenceModules? PySem.Challenge.pw_nt0165_01 s = some s := by kernel_rfl
noncomputable abbrev HK (K : Params → Frag) (h : ∀ P, addrsL = (K P).map (·.1)) : Hook := kHook K addrsL h
theorem left : LeftO PySem.Challenge.pw_nt0165_01 q looseL XT (HK (Kof PySem.Challenge.pw_nt0165_01 ofS) KA).obs (HK (Kof PySem.Challenge.pw_nt0165_01 ofS) KA).val 7676 true := by
  refine LeftO.of_pieces (H₀ := boot_heap) (H₁ := fun P => heap_482 twp fsS P) (gs₀ := ⟨[]⟩) (gs₁ := ⟨[]⟩) (d₀ := boot_drawn) (d₁ := {}) (k₀ := boot_toks) (k₁ := 730) (m₀ := 11) (ann := some (.ref 6)) (M := (12 + (1 + (335 + (310 + (225 + (416 + (225 + (223 + (223 + (223 + (223 + (225 + (223 + (223 + (397 + (318 + 2)))))))))))))))))
    (boot_open open_plain (by decide) fence_plain) size_real run_real (by decide) (fun w => funext fun os => ?_)
  exact Prod.ext (lk0 w os) (Prod.ext (Prod.ext (lk1 w os) (Prod.ext (lk2 w os) (Prod.ext (lk3 w os) (Prod.ext (lk4 w os) (Prod.ext (lk5 w os) (Prod.ext (lk6 w os) (Prod.ext (lk7 w os) (Prod.ext (lk8 w os) (lk9 w os))))))))) (lkK w os))
end Mine
end
section
open PySem PySem.W PyProof.Rows
namespace Mine
noncomputable def st1_0 : Stmt := by
  refine (fun (_ : sbA (stA PySem.Challenge.pw_nt0165_01 1) 0 = ?s) => ?s) ?h
  case h => conv => lhs; whnf
theorem st1_0_eq : sbA (stA PySem.Challenge.pw_nt0165_01 1) 0 = st1_0 := rfl
noncomputable def st6_0 : Stmt := by
  refine (fun (_ : sbA (stA PySem.Challenge.pw_nt0165_01 6) 0 = ?s) => ?s) ?h
  case h => conv => lhs; whnf
theorem st6_0_eq : sbA (stA PySem.Challenge.pw_nt0165_01 6) 0 = st6_0 := rfl
noncomputable def st7_0 : Stmt := by
  refine (fun (_ : sbA (stA PySem.Challenge.pw_nt0165_01 7) 0 = ?s) => ?s) ?h
  case h => conv => lhs; whnf
theorem st7_0_eq : sbA (stA PySem.Challenge.pw_nt0165_01 7) 0 = st7_0 := rfl
noncomputable def st7_1 : Stmt := by
  refine (fun (_ : sbA (stA PySem.Challenge.pw_nt0165_01 7) 1 = ?s) => ?s) ?h
  case h => conv => lhs; whnf
theorem st7_1_eq : sbA (stA PySem.Challenge.pw_nt0165_01 7) 1 = st7_1 := rfl
noncomputable def st7_2 : Stmt := by
  refine (fun (_ : sbA (stA PySem.Challenge.pw_nt0165_01 7) 2 = ?s) => ?s) ?h
  case h => conv => lhs; whnf
theorem st7_2_eq : sbA (stA PySem.Challenge.pw_nt0165_01 7) 2 = st7_2 := rfl
noncomputable def st7_3 : Stmt := by
  refine (fun (_ : sbA (stA PySem.Challenge.pw_nt0165_01 7) 3 = ?s) => ?s) ?h
  case h => conv => lhs; whnf
theorem st7_3_eq : sbA (stA PySem.Challenge.pw_nt0165_01 7) 3 = st7_3 := rfl
noncomputable def st7_4 : Stmt := by
  refine (fun (_ : sbA (stA PySem.Challenge.pw_nt0165_01 7) 4 = ?s) => ?s) ?h
  case h => conv => lhs; whnf
theorem st7_4_eq : sbA (stA PySem.Challenge.pw_nt0165_01 7) 4 = st7_4 := rfl
noncomputable def st7_5 : Stmt := by
  refine (fun (_ : sbA (stA PySem.Challenge.pw_nt0165_01 7) 5 = ?s) => ?s) ?h
  case h => conv => lhs; whnf
theorem st7_5_eq : sbA (stA PySem.Challenge.pw_nt0165_01 7) 5 = st7_5 := rfl
noncomputable def st7_6 : Stmt := by
  refine (fun (_ : sbA (stA PySem.Challenge.pw_nt0165_01 7) 6 = ?s) => ?s) ?h
  case h => conv => lhs; whnf
theorem st7_6_eq : sbA (stA PySem.Challenge.pw_nt0165_01 7) 6 = st7_6 := rfl
noncomputable def st8_0 : Stmt := by
  refine (fun (_ : sbA (stA PySem.Challenge.pw_nt0165_01 8) 0 = ?s) => ?s) ?h
  case h => conv => lhs; whnf
theorem st8_0_eq : sbA (stA PySem.Challenge.pw_nt0165_01 8) 0 = st8_0 := rfl
noncomputable def st9_0 : Stmt := by
  refine (fun (_ : sbA (stA PySem.Challenge.pw_nt0165_01 9) 0 = ?s) => ?s) ?h
  case h => conv => lhs; whnf
theorem st9_0_eq : sbA (stA PySem.Challenge.pw_nt0165_01 9) 0 = st9_0 := rfl
noncomputable def st10_0 : Stmt := by
  refine (fun (_ : sbA (stA PySem.Challenge.pw_nt0165_01 10) 0 = ?s) => ?s) ?h
  case h => conv => lhs; whnf
theorem st10_0_eq : sbA (stA PySem.Challenge.pw_nt0165_01 10) 0 = st10_0 := rfl
noncomputable def st11_0 : Stmt := by
  refine (fun (_ : sbA (stA PySem.Challenge.pw_nt0165_01 11) 0 = ?s) => ?s) ?h
  case h => conv => lhs; whnf
theorem st11_0_eq : sbA (stA PySem.Challenge.pw_nt0165_01 11) 0 = st11_0 := rfl
noncomputable def st12_0 : Stmt := by
  refine (fun (_ : sbA (stA PySem.Challenge.pw_nt0165_01 12) 0 = ?s) => ?s) ?h
  case h => conv => lhs; whnf
theorem st12_0_eq : sbA (stA PySem.Challenge.pw_nt0165_01 12) 0 = st12_0 := rfl
noncomputable def st13_0 : Stmt := by
  refine (fun (_ : sbA (stA PySem.Challenge.pw_nt0165_01 13) 0 = ?s) => ?s) ?h
  case h => conv => lhs; whnf
theorem st13_0_eq : sbA (stA PySem.Challenge.pw_nt0165_01 13) 0 = st13_0 := rfl
noncomputable def st14_0 : Stmt := by
  refine (fun (_ : sbA (stA PySem.Challenge.pw_nt0165_01 14) 0 = ?s) => ?s) ?h
  case h => conv => lhs; whnf
theorem st14_0_eq : sbA (stA PySem.Challenge.pw_nt0165_01 14) 0 = st14_0 := rfl
noncomputable def st15_0 : Stmt := by
  refine (fun (_ : sbA (stA PySem.Challenge.pw_nt0165_01 15) 0 = ?s) => ?s) ?h
  case h => conv => lhs; whnf
theorem st15_0_eq : sbA (stA PySem.Challenge.pw_nt0165_01 15) 0 = st15_0 := rfl
noncomputable def st16_0 : Stmt := by
  refine (fun (_ : sbA (stA PySem.Challenge.pw_nt0165_01 16) 0 = ?s) => ?s) ?h
  case h => conv => lhs; whnf
theorem st16_0_eq : sbA (stA PySem.Challenge.pw_nt0165_01 16) 0 = st16_0 := rfl
noncomputable def st17 : Stmt := by
  refine (fun (_ : stA PySem.Challenge.pw_nt0165_01 17 = ?s) => ?s) ?h
  case h => conv => lhs; whnf
theorem st17_eq : stA PySem.Challenge.pw_nt0165_01 17 = st17 := rfl
noncomputable def st18 : Stmt := by
  refine (fun (_ : stA PySem.Challenge.pw_nt0165_01 18 = ?s) => ?s) ?h
  case h => conv => lhs; whnf
theorem st18_eq : stA PySem.Challenge.pw_nt0165_01 18 = st18 := rfl
noncomputable def st19 : Stmt := by
  refine (fun (_ : stA PySem.Challenge.pw_nt0165_01 19 = ?s) => ?s) ?h
  case h => conv => lhs; whnf
theorem st19_eq : stA PySem.Challenge.pw_nt0165_01 19 = st19 := rfl
noncomputable def st20 : Stmt := by
  refine (fun (_ : stA PySem.Challenge.pw_nt0165_01 20 = ?s) => ?s) ?h
  case h => conv => lhs; whnf
theorem st20_eq : stA PySem.Challenge.pw_nt0165_01 20 = st20 := rfl
noncomputable def st21 : Stmt := by
  refine (fun (_ : stA PySem.Challenge.pw_nt0165_01 21 = ?s) => ?s) ?h
  case h => conv => lhs; whnf
theorem st21_eq : stA PySem.Challenge.pw_nt0165_01 21 = st21 := rfl
noncomputable def st22 : Stmt := by
  refine (fun (_ : stA PySem.Challenge.pw_nt0165_01 22 = ?s) => ?s) ?h
  case h => conv => lhs; whnf
theorem st22_eq : stA PySem.Challenge.pw_nt0165_01 22 = st22 := rfl
noncomputable def st23 : Stmt := by
  refine (fun (_ : stA PySem.Challenge.pw_nt0165_01 23 = ?s) => ?s) ?h
  case h => conv => lhs; whnf
theorem st23_eq : stA PySem.Challenge.pw_nt0165_01 23 = st23 := rfl
noncomputable def st24 : Stmt := by
  refine (fun (_ : stA PySem.Challenge.pw_nt0165_01 24 = ?s) => ?s) ?h
  case h => conv => lhs; whnf
theorem st24_eq : stA PySem.Challenge.pw_nt0165_01 24 = st24 := rfl
noncomputable def st25 : Stmt := by
  refine (fun (_ : stA PySem.Challenge.pw_nt0165_01 25 = ?s) => ?s) ?h
  case h => conv => lhs; whnf
theorem st25_eq : stA PySem.Challenge.pw_nt0165_01 25 = st25 := rfl
noncomputable def st26 : Stmt := by
  refine (fun (_ : stA PySem.Challenge.pw_nt0165_01 26 = ?s) => ?s) ?h
  case h => conv => lhs; whnf
theorem st26_eq : stA PySem.Challenge.pw_nt0165_01 26 = st26 := rfl
noncomputable def st27 : Stmt := by
  refine (fun (_ : stA PySem.Challenge.pw_nt0165_01 27 = ?s) => ?s) ?h
  case h => conv => lhs; whnf
theorem st27_eq : stA PySem.Challenge.pw_nt0165_01 27 = st27 := rfl
noncomputable def st29 : Stmt := by
  refine (fun (_ : stA PySem.Challenge.pw_nt0165_01 29 = ?s) => ?s) ?h
  case h => conv => lhs; whnf
theorem st29_eq : stA PySem.Challenge.pw_nt0165_01 29 = st29 := rfl
noncomputable def st30 : Stmt := by
  refine (fun (_ : stA PySem.Challenge.pw_nt0165_01 30 = ?s) => ?s) ?h
  case h => conv => lhs; whnf
theorem st30_eq : stA PySem.Challenge.pw_nt0165_01 30 = st30 := rfl
noncomputable def st31 : Stmt := by
  refine (fun (_ : stA PySem.Challenge.pw_nt0165_01 31 = ?s) => ?s) ?h
  case h => conv => lhs; whnf
theorem st31_eq : stA PySem.Challenge.pw_nt0165_01 31 = st31 := rfl
noncomputable def st32 : Stmt := by
  refine (fun (_ : stA PySem.Challenge.pw_nt0165_01 32 = ?s) => ?s) ?h
  case h => conv => lhs; whnf
theorem st32_eq : stA PySem.Challenge.pw_nt0165_01 32 = st32 := rfl
noncomputable def st33 : Stmt := by
  refine (fun (_ : stA PySem.Challenge.pw_nt0165_01 33 = ?s) => ?s) ?h
  case h => conv => lhs; whnf
theorem st33_eq : stA PySem.Challenge.pw_nt0165_01 33 = st33 := rfl
noncomputable def l2 (P : Params) : Obj := by
  refine (fun (_ : boot_o_2 P = ?o) => ?o) ?h
  case h =>
    dsimp only [boot_o_2]
    exact rfl
noncomputable def l3 (P : Params) : Obj := by
  refine (fun (_ : o_411 PySem.Challenge.pw_nt0165_01 ofS P = ?o) => ?o) ?h
  case h =>
    dsimp only [o_411, E]
    dsimp only [ofS]
    exact rfl
noncomputable def l22 (P : Params) : Obj := by
  refine (fun (_ : o_58 PySem.Challenge.pw_nt0165_01 ofS P = ?o) => ?o) ?h
  case h =>
    dsimp only [o_58, E]
    exact rfl
noncomputable def l24 (P : Params) : Obj := by
  refine (fun (_ : o_60 PySem.Challenge.pw_nt0165_01 ofS P = ?o) => ?o) ?h
  case h =>
    dsimp only [o_60, E]
    dsimp only [ofS]
    exact rfl
noncomputable def l25 (P : Params) : Obj := by
  refine (fun (_ : o_61 PySem.Challenge.pw_nt0165_01 ofS P = ?o) => ?o) ?h
  case h =>
    dsimp only [o_61, E]
    exact rfl
noncomputable def l27 (P : Params) : Obj := by
  refine (fun (_ : o_63 PySem.Challenge.pw_nt0165_01 ofS P = ?o) => ?o) ?h
  case h =>
    dsimp only [o_63, E]
    dsimp only [ofS]
    exact rfl
noncomputable def l28 (P : Params) : Obj := by
  refine (fun (_ : o_64 PySem.Challenge.pw_nt0165_01 ofS P = ?o) => ?o) ?h
  case h =>
    dsimp only [o_64, E]
    dsimp only [ofS]
    dsimp only [st1_0_eq]
    dsimp only [fnP, fnB, fnS, st1_0]
    exact rfl
noncomputable def l29 (P : Params) : Obj := by
  refine (fun (_ : o_65 PySem.Challenge.pw_nt0165_01 ofS P = ?o) => ?o) ?h
  case h =>
    dsimp only [o_65, E]
    dsimp only [ofS]
    exact rfl
noncomputable def l30 (P : Params) : Obj := by
  refine (fun (_ : o_66 PySem.Challenge.pw_nt0165_01 ofS P = ?o) => ?o) ?h
  case h =>
    dsimp only [o_66, E]
    dsimp only [ofS]
    exact rfl
noncomputable def l31 (P : Params) : Obj := by
  refine (fun (_ : o_67 PySem.Challenge.pw_nt0165_01 ofS P = ?o) => ?o) ?h
  case h =>
    dsimp only [o_67, E]
    dsimp only [ofS]
    exact rfl
noncomputable def l32 (P : Params) : Obj := by
  refine (fun (_ : o_68 PySem.Challenge.pw_nt0165_01 ofS P = ?o) => ?o) ?h
  case h =>
    dsimp only [o_68, E]
    dsimp only [ofS]
    exact rfl
noncomputable def l33 (P : Params) : Obj := by
  refine (fun (_ : o_69 PySem.Challenge.pw_nt0165_01 ofS P = ?o) => ?o) ?h
  case h =>
    dsimp only [o_69, E]
    dsimp only [ofS]
    exact rfl
noncomputable def l36 (P : Params) : Obj := by
  refine (fun (_ : o_72 PySem.Challenge.pw_nt0165_01 ofS P = ?o) => ?o) ?h
  case h =>
    dsimp only [o_72, E]
    dsimp only [ofS]
    exact rfl
noncomputable def l37 (P : Params) : Obj := by
  refine (fun (_ : o_73 PySem.Challenge.pw_nt0165_01 ofS P = ?o) => ?o) ?h
  case h =>
    dsimp only [o_73, E]
    exact rfl
noncomputable def l39 (P : Params) : Obj := by
  refine (fun (_ : o_76 PySem.Challenge.pw_nt0165_01 ofS P = ?o) => ?o) ?h
  case h =>
    dsimp only [o_76, E]
    dsimp only [ofS]
    exact rfl
noncomputable def l40 (P : Params) : Obj := by
  refine (fun (_ : o_77 PySem.Challenge.pw_nt0165_01 ofS P = ?o) => ?o) ?h
  case h =>
    dsimp only [o_77, E]
    exact rfl
noncomputable def l42 (P : Params) : Obj := by
  refine (fun (_ : o_79 PySem.Challenge.pw_nt0165_01 ofS P = ?o) => ?o) ?h
  case h =>
    dsimp only [o_79, E]
    dsimp only [ofS]
    exact rfl
noncomputable def l43 (P : Params) : Obj := by
  refine (fun (_ : o_80 PySem.Challenge.pw_nt0165_01 ofS P = ?o) => ?o) ?h
  case h =>
    dsimp only [o_80, E]
    exact rfl
noncomputable def l45 (P : Params) : Obj := by
  refine (fun (_ : o_82 PySem.Challenge.pw_nt0165_01 ofS P = ?o) => ?o) ?h
  case h =>
    dsimp only [o_82, E]
    dsimp only [ofS]
    exact rfl
noncomputable def l46 (P : Params) : Obj := by
  refine (fun (_ : o_83 PySem.Challenge.pw_nt0165_01 ofS P = ?o) => ?o) ?h
  case h =>
    dsimp only [o_83, E]
    exact rfl
noncomputable def l55 (P : Params) : Obj := by
  refine (fun (_ : o_94 PySem.Challenge.pw_nt0165_01 ofS P = ?o) => ?o) ?h
  case h =>
    dsimp only [o_94, E]
    exact rfl
noncomputable def l57 (P : Params) : Obj := by
  refine (fun (_ : o_96 PySem.Challenge.pw_nt0165_01 ofS P = ?o) => ?o) ?h
  case h =>
    dsimp only [o_96, E]
    dsimp only [ofS]
    exact rfl
noncomputable def l58 (P : Params) : Obj := by
  refine (fun (_ : o_97 PySem.Challenge.pw_nt0165_01 ofS P = ?o) => ?o) ?h
  case h =>
    dsimp only [o_97, E]
    exact rfl
noncomputable def l60 (P : Params) : Obj := by
  refine (fun (_ : o_99 PySem.Challenge.pw_nt0165_01 ofS P = ?o) => ?o) ?h
  case h =>
    dsimp only [o_99, E]
    dsimp only [ofS]
    exact rfl
noncomputable def l61 (P : Params) : Obj := by
  refine (fun (_ : o_100 PySem.Challenge.pw_nt0165_01 ofS P = ?o) => ?o) ?h
  case h =>
    dsimp only [o_100, E]
    dsimp only [ofS]
    dsimp only [st6_0_eq]
    dsimp only [fnP, fnB, fnS, st6_0]
    exact rfl
noncomputable def l62 (P : Params) : Obj := by
  refine (fun (_ : o_101 PySem.Challenge.pw_nt0165_01 ofS P = ?o) => ?o) ?h
  case h =>
    dsimp only [o_101, E]
    dsimp only [ofS]
    exact rfl
noncomputable def l63 (P : Params) : Obj := by
  refine (fun (_ : o_102 PySem.Challenge.pw_nt0165_01 ofS P = ?o) => ?o) ?h
  case h =>
    dsimp only [o_102, E]
    dsimp only [ofS]
    exact rfl
noncomputable def l64 (P : Params) : Obj := by
  refine (fun (_ : o_103 PySem.Challenge.pw_nt0165_01 ofS P = ?o) => ?o) ?h
  case h =>
    dsimp only [o_103, E]
    dsimp only [ofS]
    exact rfl
noncomputable def l65 (P : Params) : Obj := by
  refine (fun (_ : o_104 PySem.Challenge.pw_nt0165_01 ofS P = ?o) => ?o) ?h
  case h =>
    dsimp only [o_104, E]
    dsimp only [ofS]
    exact rfl
noncomputable def l66 (P : Params) : Obj := by
  refine (fun (_ : o_105 PySem.Challenge.pw_nt0165_01 ofS P = ?o) => ?o) ?h
  case h =>
    dsimp only [o_105, E]
    dsimp only [ofS]
    exact rfl
noncomputable def l76 (P : Params) : Obj := by
  refine (fun (_ : o_117 PySem.Challenge.pw_nt0165_01 ofS P = ?o) => ?o) ?h
  case h =>
    dsimp only [o_117, E]
    exact rfl
noncomputable def l78 (P : Params) : Obj := by
  refine (fun (_ : o_119 PySem.Challenge.pw_nt0165_01 ofS P = ?o) => ?o) ?h
  case h =>
    dsimp only [o_119, E]
    dsimp only [ofS]
    exact rfl
noncomputable def l79 (P : Params) : Obj := by
  refine (fun (_ : o_120 PySem.Challenge.pw_nt0165_01 ofS P = ?o) => ?o) ?h
  case h =>
    dsimp only [o_120, E]
    exact rfl
noncomputable def l81 (P : Params) : Obj := by
  refine (fun (_ : o_122 PySem.Challenge.pw_nt0165_01 ofS P = ?o) => ?o) ?h
  case h =>
    dsimp only [o_122, E]
    dsimp only [ofS]
    exact rfl
noncomputable def l82 (P : Params) : Obj := by
  refine (fun (_ : o_123 PySem.Challenge.pw_nt0165_01 ofS P = ?o) => ?o) ?h
  case h =>
    dsimp only [o_123, E]
    dsimp only [ofS]
    dsimp only [st7_0_eq]
    dsimp only [fnP, fnB, fnS, st7_0]
    exact rfl
noncomputable def l83 (P : Params) : Obj := by
  refine (fun (_ : o_124 PySem.Challenge.pw_nt0165_01 ofS P = ?o) => ?o) ?h
  case h =>
    dsimp only [o_124, E]
    exact rfl
noncomputable def l85 (P : Params) : Obj := by
  refine (fun (_ : o_126 PySem.Challenge.pw_nt0165_01 ofS P = ?o) => ?o) ?h
  case h =>
    dsimp only [o_126, E]
    dsimp only [ofS]
    exact rfl
noncomputable def l86 (P : Params) : Obj := by
  refine (fun (_ : o_127 PySem.Challenge.pw_nt0165_01 ofS P = ?o) => ?o) ?h
  case h =>
    dsimp only [o_127, E]
    exact rfl
noncomputable def l88 (P : Params) : Obj := by
  refine (fun (_ : o_129 PySem.Challenge.pw_nt0165_01 ofS P = ?o) => ?o) ?h
  case h =>
    dsimp only [o_129, E]
    dsimp only [ofS]
    exact rfl
noncomputable def l89 (P : Params) : Obj := by
  refine (fun (_ : o_130 PySem.Challenge.pw_nt0165_01 ofS P = ?o) => ?o) ?h
  case h =>
    dsimp only [o_130, E]
    dsimp only [ofS]
    dsimp only [st7_1_eq]
    dsimp only [fnP, fnB, fnS, st7_1]
    exact rfl
noncomputable def l90 (P : Params) : Obj := by
  refine (fun (_ : o_131 PySem.Challenge.pw_nt0165_01 ofS P = ?o) => ?o) ?h
  case h =>
    dsimp only [o_131, E]
    exact rfl
noncomputable def l92 (P : Params) : Obj := by
  refine (fun (_ : o_133 PySem.Challenge.pw_nt0165_01 ofS P = ?o) => ?o) ?h
  case h =>
    dsimp only [o_133, E]
    dsimp only [ofS]
    exact rfl
noncomputable def l93 (P : Params) : Obj := by
  refine (fun (_ : o_134 PySem.Challenge.pw_nt0165_01 ofS P = ?o) => ?o) ?h
  case h =>
    dsimp only [o_134, E]
    exact rfl
noncomputable def l95 (P : Params) : Obj := by
  refine (fun (_ : o_136 PySem.Challenge.pw_nt0165_01 ofS P = ?o) => ?o) ?h
  case h =>
    dsimp only [o_136, E]
    dsimp only [ofS]
    exact rfl
noncomputable def l96 (P : Params) : Obj := by
  refine (fun (_ : o_137 PySem.Challenge.pw_nt0165_01 ofS P = ?o) => ?o) ?h
  case h =>
    dsimp only [o_137, E]
    dsimp only [ofS]
    dsimp only [st7_2_eq]
    dsimp only [fnP, fnB, fnS, st7_2]
    exact rfl
noncomputable def l97 (P : Params) : Obj := by
  refine (fun (_ : o_138 PySem.Challenge.pw_nt0165_01 ofS P = ?o) => ?o) ?h
  case h =>
    dsimp only [o_138, E]
    exact rfl
noncomputable def l99 (P : Params) : Obj := by
  refine (fun (_ : o_140 PySem.Challenge.pw_nt0165_01 ofS P = ?o) => ?o) ?h
  case h =>
    dsimp only [o_140, E]
    dsimp only [ofS]
    exact rfl
noncomputable def l100 (P : Params) : Obj := by
  refine (fun (_ : o_141 PySem.Challenge.pw_nt0165_01 ofS P = ?o) => ?o) ?h
  case h =>
    dsimp only [o_141, E]
    exact rfl
noncomputable def l102 (P : Params) : Obj := by
  refine (fun (_ : o_143 PySem.Challenge.pw_nt0165_01 ofS P = ?o) => ?o) ?h
  case h =>
    dsimp only [o_143, E]
    dsimp only [ofS]
    exact rfl
noncomputable def l103 (P : Params) : Obj := by
  refine (fun (_ : o_144 PySem.Challenge.pw_nt0165_01 ofS P = ?o) => ?o) ?h
  case h =>
    dsimp only [o_144, E]
    dsimp only [ofS]
    dsimp only [st7_3_eq]
    dsimp only [fnP, fnB, fnS, st7_3]
    exact rfl
noncomputable def l104 (P : Params) : Obj := by
  refine (fun (_ : o_145 PySem.Challenge.pw_nt0165_01 ofS P = ?o) => ?o) ?h
  case h =>
    dsimp only [o_145, E]
    exact rfl
noncomputable def l106 (P : Params) : Obj := by
  refine (fun (_ : o_147 PySem.Challenge.pw_nt0165_01 ofS P = ?o) => ?o) ?h
  case h =>
    dsimp only [o_147, E]
    dsimp only [ofS]
    exact rfl
noncomputable def l107 (P : Params) : Obj := by
  refine (fun (_ : o_148 PySem.Challenge.pw_nt0165_01 ofS P = ?o) => ?o) ?h
  case h =>
    dsimp only [o_148, E]
    exact rfl
noncomputable def l109 (P : Params) : Obj := by
  refine (fun (_ : o_150 PySem.Challenge.pw_nt0165_01 ofS P = ?o) => ?o) ?h
  case h =>
    dsimp only [o_150, E]
    dsimp only [ofS]
    exact rfl
noncomputable def l110 (P : Params) : Obj := by
  refine (fun (_ : o_151 PySem.Challenge.pw_nt0165_01 ofS P = ?o) => ?o) ?h
  case h =>
    dsimp only [o_151, E]
    dsimp only [ofS]
    dsimp only [st7_4_eq]
    dsimp only [fnP, fnB, fnS, st7_4]
    exact rfl
noncomputable def l111 (P : Params) : Obj := by
  refine (fun (_ : o_152 PySem.Challenge.pw_nt0165_01 ofS P = ?o) => ?o) ?h
  case h =>
    dsimp only [o_152, E]
    exact rfl
noncomputable def l113 (P : Params) : Obj := by
  refine (fun (_ : o_154 PySem.Challenge.pw_nt0165_01 ofS P = ?o) => ?o) ?h
  case h =>
    dsimp only [o_154, E]
    dsimp only [ofS]
    exact rfl
noncomputable def l114 (P : Params) : Obj := by
  refine (fun (_ : o_155 PySem.Challenge.pw_nt0165_01 ofS P = ?o) => ?o) ?h
  case h =>
    dsimp only [o_155, E]
    exact rfl
noncomputable def l116 (P : Params) : Obj := by
  refine (fun (_ : o_157 PySem.Challenge.pw_nt0165_01 ofS P = ?o) => ?o) ?h
  case h =>
    dsimp only [o_157, E]
    dsimp only [ofS]
    exact rfl
noncomputable def l117 (P : Params) : Obj := by
  refine (fun (_ : o_158 PySem.Challenge.pw_nt0165_01 ofS P = ?o) => ?o) ?h
  case h =>
    dsimp only [o_158, E]
    dsimp only [ofS]
    dsimp only [st7_5_eq]
    dsimp only [fnP, fnB, fnS, st7_5]
    exact rfl
noncomputable def l118 (P : Params) : Obj := by
  refine (fun (_ : o_159 PySem.Challenge.pw_nt0165_01 ofS P = ?o) => ?o) ?h
  case h =>
    dsimp only [o_159, E]
    exact rfl
noncomputable def l120 (P : Params) : Obj := by
  refine (fun (_ : o_161 PySem.Challenge.pw_nt0165_01 ofS P = ?o) => ?o) ?h
  case h =>
    dsimp only [o_161, E]
    dsimp only [ofS]
    exact rfl
noncomputable def l121 (P : Params) : Obj := by
  refine (fun (_ : o_162 PySem.Challenge.pw_nt0165_01 ofS P = ?o) => ?o) ?h
  case h =>
    dsimp only [o_162, E]
    exact rfl
noncomputable def l123 (P : Params) : Obj := by
  refine (fun (_ : o_164 PySem.Challenge.pw_nt0165_01 ofS P = ?o) => ?o) ?h
  case h =>
    dsimp only [o_164, E]
    dsimp only [ofS]
    exact rfl
noncomputable def l124 (P : Params) : Obj := by
  refine (fun (_ : o_165 PySem.Challenge.pw_nt0165_01 ofS P = ?o) => ?o) ?h
  case h =>
    dsimp only [o_165, E]
    dsimp only [ofS]
    dsimp only [st7_6_eq]
    dsimp only [fnP, fnB, fnS, st7_6]
    exact rfl
noncomputable def l125 (P : Params) : Obj := by
  refine (fun (_ : o_166 PySem.Challenge.pw_nt0165_01 ofS P = ?o) => ?o) ?h
  case h =>
    dsimp only [o_166, E]
    dsimp only [ofS]
    exact rfl
noncomputable def l126 (P : Params) : Obj := by
  refine (fun (_ : o_167 PySem.Challenge.pw_nt0165_01 ofS P = ?o) => ?o) ?h
  case h =>
    dsimp only [o_167, E]
    dsimp only [ofS]
    exact rfl
noncomputable def l127 (P : Params) : Obj := by
  refine (fun (_ : o_168 PySem.Challenge.pw_nt0165_01 ofS P = ?o) => ?o) ?h
  case h =>
    dsimp only [o_168, E]
    dsimp only [ofS]
    exact rfl
noncomputable def l128 (P : Params) : Obj := by
  refine (fun (_ : o_169 PySem.Challenge.pw_nt0165_01 ofS P = ?o) => ?o) ?h
  case h =>
    dsimp only [o_169, E]
    dsimp only [ofS]
    exact rfl
noncomputable def l129 (P : Params) : Obj := by
  refine (fun (_ : o_170 PySem.Challenge.pw_nt0165_01 ofS P = ?o) => ?o) ?h
  case h =>
    dsimp only [o_170, E]
    dsimp only [ofS]
    exact rfl
noncomputable def l139 (P : Params) : Obj := by
  refine (fun (_ : o_182 PySem.Challenge.pw_nt0165_01 ofS P = ?o) => ?o) ?h
  case h =>
    dsimp only [o_182, E]
    exact rfl
noncomputable def l141 (P : Params) : Obj := by
  refine (fun (_ : o_184 PySem.Challenge.pw_nt0165_01 ofS P = ?o) => ?o) ?h
  case h =>
    dsimp only [o_184, E]
    dsimp only [ofS]
    exact rfl
noncomputable def l142 (P : Params) : Obj := by
  refine (fun (_ : o_185 PySem.Challenge.pw_nt0165_01 ofS P = ?o) => ?o) ?h
  case h =>
    dsimp only [o_185, E]
    exact rfl
noncomputable def l144 (P : Params) : Obj := by
  refine (fun (_ : o_187 PySem.Challenge.pw_nt0165_01 ofS P = ?o) => ?o) ?h
  case h =>
    dsimp only [o_187, E]
    dsimp only [ofS]
    exact rfl
noncomputable def l145 (P : Params) : Obj := by
  refine (fun (_ : o_188 PySem.Challenge.pw_nt0165_01 ofS P = ?o) => ?o) ?h
  case h =>
    dsimp only [o_188, E]
    dsimp only [ofS]
    dsimp only [st8_0_eq]
    dsimp only [fnP, fnB, fnS, st8_0]
    exact rfl
noncomputable def l146 (P : Params) : Obj := by
  refine (fun (_ : o_189 PySem.Challenge.pw_nt0165_01 ofS P = ?o) => ?o) ?h
  case h =>
    dsimp only [o_189, E]
    dsimp only [ofS]
    exact rfl
noncomputable def l147 (P : Params) : Obj := by
  refine (fun (_ : o_190 PySem.Challenge.pw_nt0165_01 ofS P = ?o) => ?o) ?h
  case h =>
    dsimp only [o_190, E]
    dsimp only [ofS]
    exact rfl
noncomputable def l148 (P : Params) : Obj := by
  refine (fun (_ : o_191 PySem.Challenge.pw_nt0165_01 ofS P = ?o) => ?o) ?h
  case h =>
    dsimp only [o_191, E]
    dsimp only [ofS]
    exact rfl
noncomputable def l149 (P : Params) : Obj := by
  refine (fun (_ : o_192 PySem.Challenge.pw_nt0165_01 ofS P = ?o) => ?o) ?h
  case h =>
    dsimp only [o_192, E]
    dsimp only [ofS]
    exact rfl
noncomputable def l150 (P : Params) : Obj := by
  refine (fun (_ : o_193 PySem.Challenge.pw_nt0165_01 ofS P = ?o) => ?o) ?h
  case h =>
    dsimp only [o_193, E]
    dsimp only [ofS]
    exact rfl
noncomputable def l160 (P : Params) : Obj := by
  refine (fun (_ : o_205 PySem.Challenge.pw_nt0165_01 ofS P = ?o) => ?o) ?h
  case h =>
    dsimp only [o_205, E]
    exact rfl
noncomputable def l162 (P : Params) : Obj := by
  refine (fun (_ : o_207 PySem.Challenge.pw_nt0165_01 ofS P = ?o) => ?o) ?h
  case h =>
    dsimp only [o_207, E]
    dsimp only [ofS]
    exact rfl
noncomputable def l163 (P : Params) : Obj := by
  refine (fun (_ : o_208 PySem.Challenge.pw_nt0165_01 ofS P = ?o) => ?o) ?h
  case h =>
    dsimp only [o_208, E]
    exact rfl
noncomputable def l165 (P : Params) : Obj := by
  refine (fun (_ : o_210 PySem.Challenge.pw_nt0165_01 ofS P = ?o) => ?o) ?h
  case h =>
    dsimp only [o_210, E]
    dsimp only [ofS]
    exact rfl
noncomputable def l166 (P : Params) : Obj := by
  refine (fun (_ : o_211 PySem.Challenge.pw_nt0165_01 ofS P = ?o) => ?o) ?h
  case h =>
    dsimp only [o_211, E]
    dsimp only [ofS]
    dsimp only [st9_0_eq]
    dsimp only [fnP, fnB, fnS, st9_0]
    exact rfl
noncomputable def l167 (P : Params) : Obj := by
  refine (fun (_ : o_212 PySem.Challenge.pw_nt0165_01 ofS P = ?o) => ?o) ?h
  case h =>
    dsimp only [o_212, E]
    dsimp only [ofS]
    exact rfl
noncomputable def l168 (P : Params) : Obj := by
  refine (fun (_ : o_213 PySem.Challenge.pw_nt0165_01 ofS P = ?o) => ?o) ?h
  case h =>
    dsimp only [o_213, E]
    dsimp only [ofS]
    exact rfl
noncomputable def l169 (P : Params) : Obj := by
  refine (fun (_ : o_214 PySem.Challenge.pw_nt0165_01 ofS P = ?o) => ?o) ?h
  case h =>
    dsimp only [o_214, E]
    dsimp only [ofS]
    exact rfl
noncomputable def l170 (P : Params) : Obj := by
  refine (fun (_ : o_215 PySem.Challenge.pw_nt0165_01 ofS P = ?o) => ?o) ?h
  case h =>
    dsimp only [o_215, E]
    dsimp only [ofS]
    exact rfl
noncomputable def l171 (P : Params) : Obj := by
  refine (fun (_ : o_216 PySem.Challenge.pw_nt0165_01 ofS P = ?o) => ?o) ?h
  case h =>
    dsimp only [o_216, E]
    dsimp only [ofS]
    exact rfl
noncomputable def l181 (P : Params) : Obj := by
  refine (fun (_ : o_228 PySem.Challenge.pw_nt0165_01 ofS P = ?o) => ?o) ?h
  case h =>
    dsimp only [o_228, E]
    exact rfl
noncomputable def l183 (P : Params) : Obj := by
  refine (fun (_ : o_230 PySem.Challenge.pw_nt0165_01 ofS P = ?o) => ?o) ?h
  case h =>
    dsimp only [o_230, E]
    dsimp only [ofS]
    exact rfl
noncomputable def l184 (P : Params) : Obj := by
  refine (fun (_ : o_231 PySem.Challenge.pw_nt0165_01 ofS P = ?o) => ?o) ?h
  case h =>
    dsimp only [o_231, E]
    exact rfl
noncomputable def l186 (P : Params) : Obj := by
  refine (fun (_ : o_233 PySem.Challenge.pw_nt0165_01 ofS P = ?o) => ?o) ?h
  case h =>
    dsimp only [o_233, E]
    dsimp only [ofS]
    exact rfl
noncomputable def l187 (P : Params) : Obj := by
  refine (fun (_ : o_234 PySem.Challenge.pw_nt0165_01 ofS P = ?o) => ?o) ?h
  case h =>
    dsimp only [o_234, E]
    dsimp only [ofS]
    dsimp only [st10_0_eq]
    dsimp only [fnP, fnB, fnS, st10_0]
    exact rfl
noncomputable def l188 (P : Params) : Obj := by
  refine (fun (_ : o_235 PySem.Challenge.pw_nt0165_01 ofS P = ?o) => ?o) ?h
  case h =>
    dsimp only [o_235, E]
    dsimp only [ofS]
    exact rfl
noncomputable def l189 (P : Params) : Obj := by
  refine (fun (_ : o_236 PySem.Challenge.pw_nt0165_01 ofS P = ?o) => ?o) ?h
  case h =>
    dsimp only [o_236, E]
    dsimp only [ofS]
    exact rfl
noncomputable def l190 (P : Params) : Obj := by
  refine (fun (_ : o_237 PySem.Challenge.pw_nt0165_01 ofS P = ?o) => ?o) ?h
  case h =>
    dsimp only [o_237, E]
    dsimp only [ofS]
    exact rfl
noncomputable def l191 (P : Params) : Obj := by
  refine (fun (_ : o_238 PySem.Challenge.pw_nt0165_01 ofS P = ?o) => ?o) ?h
  case h =>
    dsimp only [o_238, E]
    dsimp only [ofS]
    exact rfl
noncomputable def l192 (P : Params) : Obj := by
  refine (fun (_ : o_239 PySem.Challenge.pw_nt0165_01 ofS P = ?o) => ?o) ?h
  case h =>
    dsimp only [o_239, E]
    dsimp only [ofS]
    exact rfl
noncomputable def l202 (P : Params) : Obj := by
  refine (fun (_ : o_251 PySem.Challenge.pw_nt0165_01 ofS P = ?o) => ?o) ?h
  case h =>
    dsimp only [o_251, E]
    exact rfl
noncomputable def l204 (P : Params) : Obj := by
  refine (fun (_ : o_253 PySem.Challenge.pw_nt0165_01 ofS P = ?o) => ?o) ?h
  case h =>
    dsimp only [o_253, E]
    dsimp only [ofS]
    exact rfl
noncomputable def l205 (P : Params) : Obj := by
  refine (fun (_ : o_254 PySem.Challenge.pw_nt0165_01 ofS P = ?o) => ?o) ?h
  case h =>
    dsimp only [o_254, E]
    exact rfl
noncomputable def l207 (P : Params) : Obj := by
  refine (fun (_ : o_256 PySem.Challenge.pw_nt0165_01 ofS P = ?o) => ?o) ?h
  case h =>
    dsimp only [o_256, E]
    dsimp only [ofS]
    exact rfl
noncomputable def l208 (P : Params) : Obj := by
  refine (fun (_ : o_257 PySem.Challenge.pw_nt0165_01 ofS P = ?o) => ?o) ?h
  case h =>
    dsimp only [o_257, E]
    dsimp only [ofS]
    dsimp only [st11_0_eq]
    dsimp only [fnP, fnB, fnS, st11_0]
    exact rfl
noncomputable def l209 (P : Params) : Obj := by
  refine (fun (_ : o_258 PySem.Challenge.pw_nt0165_01 ofS P = ?o) => ?o) ?h
  case h =>
    dsimp only [o_258, E]
    dsimp only [ofS]
    exact rfl
noncomputable def l210 (P : Params) : Obj := by
  refine (fun (_ : o_259 PySem.Challenge.pw_nt0165_01 ofS P = ?o) => ?o) ?h
  case h =>
    dsimp only [o_259, E]
    dsimp only [ofS]
    exact rfl
noncomputable def l211 (P : Params) : Obj := by
  refine (fun (_ : o_260 PySem.Challenge.pw_nt0165_01 ofS P = ?o) => ?o) ?h
  case h =>
    dsimp only [o_260, E]
    dsimp only [ofS]
    exact rfl
noncomputable def l212 (P : Params) : Obj := by
  refine (fun (_ : o_261 PySem.Challenge.pw_nt0165_01 ofS P = ?o) => ?o) ?h
  case h =>
    dsimp only [o_261, E]
    dsimp only [ofS]
    exact rfl
noncomputable def l213 (P : Params) : Obj := by
  refine (fun (_ : o_262 PySem.Challenge.pw_nt0165_01 ofS P = ?o) => ?o) ?h
  case h =>
    dsimp only [o_262, E]
    dsimp only [ofS]
    exact rfl
noncomputable def l223 (P : Params) : Obj := by
  refine (fun (_ : o_274 PySem.Challenge.pw_nt0165_01 ofS P = ?o) => ?o) ?h
  case h =>
    dsimp only [o_274, E]
    exact rfl
noncomputable def l225 (P : Params) : Obj := by
  refine (fun (_ : o_276 PySem.Challenge.pw_nt0165_01 ofS P = ?o) => ?o) ?h
  case h =>
    dsimp only [o_276, E]
    dsimp only [ofS]
    exact rfl
noncomputable def l226 (P : Params) : Obj := by
  refine (fun (_ : o_277 PySem.Challenge.pw_nt0165_01 ofS P = ?o) => ?o) ?h
  case h =>
    dsimp only [o_277, E]
    exact rfl
noncomputable def l228 (P : Params) : Obj := by
  refine (fun (_ : o_279 PySem.Challenge.pw_nt0165_01 ofS P = ?o) => ?o) ?h
  case h =>
    dsimp only [o_279, E]
    dsimp only [ofS]
    exact rfl
noncomputable def l229 (P : Params) : Obj := by
  refine (fun (_ : o_280 PySem.Challenge.pw_nt0165_01 ofS P = ?o) => ?o) ?h
  case h =>
    dsimp only [o_280, E]
    dsimp only [ofS]
    dsimp only [st12_0_eq]
    dsimp only [fnP, fnB, fnS, st12_0]
    exact rfl
noncomputable def l230 (P : Params) : Obj := by
  refine (fun (_ : o_281 PySem.Challenge.pw_nt0165_01 ofS P = ?o) => ?o) ?h
  case h =>
    dsimp only [o_281, E]
    dsimp only [ofS]
    exact rfl
noncomputable def l231 (P : Params) : Obj := by
  refine (fun (_ : o_282 PySem.Challenge.pw_nt0165_01 ofS P = ?o) => ?o) ?h
  case h =>
    dsimp only [o_282, E]
    dsimp only [ofS]
    exact rfl
noncomputable def l232 (P : Params) : Obj := by
  refine (fun (_ : o_283 PySem.Challenge.pw_nt0165_01 ofS P = ?o) => ?o) ?h
  case h =>
    dsimp only [o_283, E]
    dsimp only [ofS]
    exact rfl
noncomputable def l233 (P : Params) : Obj := by
  refine (fun (_ : o_284 PySem.Challenge.pw_nt0165_01 ofS P = ?o) => ?o) ?h
  case h =>
    dsimp only [o_284, E]
    dsimp only [ofS]
    exact rfl
noncomputable def l234 (P : Params) : Obj := by
  refine (fun (_ : o_285 PySem.Challenge.pw_nt0165_01 ofS P = ?o) => ?o) ?h
  case h =>
    dsimp only [o_285, E]
    dsimp only [ofS]
    exact rfl
noncomputable def l244 (P : Params) : Obj := by
  refine (fun (_ : o_297 PySem.Challenge.pw_nt0165_01 ofS P = ?o) => ?o) ?h
  case h =>
    dsimp only [o_297, E]
    exact rfl
noncomputable def l246 (P : Params) : Obj := by
  refine (fun (_ : o_299 PySem.Challenge.pw_nt0165_01 ofS P = ?o) => ?o) ?h
  case h =>
    dsimp only [o_299, E]
    dsimp only [ofS]
    exact rfl
noncomputable def l247 (P : Params) : Obj := by
  refine (fun (_ : o_300 PySem.Challenge.pw_nt0165_01 ofS P = ?o) => ?o) ?h
  case h =>
    dsimp only [o_300, E]
    exact rfl
noncomputable def l249 (P : Params) : Obj := by
  refine (fun (_ : o_302 PySem.Challenge.pw_nt0165_01 ofS P = ?o) => ?o) ?h
  case h =>
    dsimp only [o_302, E]
    dsimp only [ofS]
    exact rfl
noncomputable def l250 (P : Params) : Obj := by
  refine (fun (_ : o_303 PySem.Challenge.pw_nt0165_01 ofS P = ?o) => ?o) ?h
  case h =>
    dsimp only [o_303, E]
    dsimp only [ofS]
    dsimp only [st13_0_eq]
    dsimp only [fnP, fnB, fnS, st13_0]
    exact rfl
noncomputable def l251 (P : Params) : Obj := by
  refine (fun (_ : o_304 PySem.Challenge.pw_nt0165_01 ofS P = ?o) => ?o) ?h
  case h =>
    dsimp only [o_304, E]
    dsimp only [ofS]
    exact rfl
noncomputable def l252 (P : Params) : Obj := by
  refine (fun (_ : o_305 PySem.Challenge.pw_nt0165_01 ofS P = ?o) => ?o) ?h
  case h =>
    dsimp only [o_305, E]
    dsimp only [ofS]
    exact rfl
noncomputable def l253 (P : Params) : Obj := by
  refine (fun (_ : o_306 PySem.Challenge.pw_nt0165_01 ofS P = ?o) => ?o) ?h
  case h =>
    dsimp only [o_306, E]
    dsimp only [ofS]
    exact rfl
noncomputable def l254 (P : Params) : Obj := by
  refine (fun (_ : o_307 PySem.Challenge.pw_nt0165_01 ofS P = ?o) => ?o) ?h
  case h =>
    dsimp only [o_307, E]
    dsimp only [ofS]
    exact rfl
noncomputable def l255 (P : Params) : Obj := by
  refine (fun (_ : o_308 PySem.Challenge.pw_nt0165_01 ofS P = ?o) => ?o) ?h
  case h =>
    dsimp only [o_308, E]
    dsimp only [ofS]
    exact rfl
noncomputable def l265 (P : Params) : Obj := by
  refine (fun (_ : o_320 PySem.Challenge.pw_nt0165_01 ofS P = ?o) => ?o) ?h
  case h =>
    dsimp only [o_320, E]
    exact rfl
noncomputable def l267 (P : Params) : Obj := by
  refine (fun (_ : o_322 PySem.Challenge.pw_nt0165_01 ofS P = ?o) => ?o) ?h
  case h =>
    dsimp only [o_322, E]
    dsimp only [ofS]
    exact rfl
noncomputable def l268 (P : Params) : Obj := by
  refine (fun (_ : o_323 PySem.Challenge.pw_nt0165_01 ofS P = ?o) => ?o) ?h
  case h =>
    dsimp only [o_323, E]
    exact rfl
noncomputable def l270 (P : Params) : Obj := by
  refine (fun (_ : o_325 PySem.Challenge.pw_nt0165_01 ofS P = ?o) => ?o) ?h
  case h =>
    dsimp only [o_325, E]
    dsimp only [ofS]
    exact rfl
noncomputable def l271 (P : Params) : Obj := by
  refine (fun (_ : o_326 PySem.Challenge.pw_nt0165_01 ofS P = ?o) => ?o) ?h
  case h =>
    dsimp only [o_326, E]
    dsimp only [ofS]
    dsimp only [st14_0_eq]
    dsimp only [fnP, fnB, fnS, st14_0]
    exact rfl
noncomputable def l272 (P : Params) : Obj := by
  refine (fun (_ : o_327 PySem.Challenge.pw_nt0165_01 ofS P = ?o) => ?o) ?h
  case h =>
    dsimp only [o_327, E]
    dsimp only [ofS]
    exact rfl
noncomputable def l273 (P : Params) : Obj := by
  refine (fun (_ : o_328 PySem.Challenge.pw_nt0165_01 ofS P = ?o) => ?o) ?h
  case h =>
    dsimp only [o_328, E]
    dsimp only [ofS]
    exact rfl
noncomputable def l274 (P : Params) : Obj := by
  refine (fun (_ : o_329 PySem.Challenge.pw_nt0165_01 ofS P = ?o) => ?o) ?h
  case h =>
    dsimp only [o_329, E]
    dsimp only [ofS]
    exact rfl
noncomputable def l275 (P : Params) : Obj := by
  refine (fun (_ : o_330 PySem.Challenge.pw_nt0165_01 ofS P = ?o) => ?o) ?h
  case h =>
    dsimp only [o_330, E]
    dsimp only [ofS]
    exact rfl
noncomputable def l276 (P : Params) : Obj := by
  refine (fun (_ : o_331 PySem.Challenge.pw_nt0165_01 ofS P = ?o) => ?o) ?h
  case h =>
    dsimp only [o_331, E]
    dsimp only [ofS]
    exact rfl
noncomputable def l286 (P : Params) : Obj := by
  refine (fun (_ : o_343 PySem.Challenge.pw_nt0165_01 ofS P = ?o) => ?o) ?h
  case h =>
    dsimp only [o_343, E]
    exact rfl
noncomputable def l288 (P : Params) : Obj := by
  refine (fun (_ : o_345 PySem.Challenge.pw_nt0165_01 ofS P = ?o) => ?o) ?h
  case h =>
    dsimp only [o_345, E]
    dsimp only [ofS]
    exact rfl
noncomputable def l289 (P : Params) : Obj := by
  refine (fun (_ : o_346 PySem.Challenge.pw_nt0165_01 ofS P = ?o) => ?o) ?h
  case h =>
    dsimp only [o_346, E]
    exact rfl
noncomputable def l291 (P : Params) : Obj := by
  refine (fun (_ : o_348 PySem.Challenge.pw_nt0165_01 ofS P = ?o) => ?o) ?h
  case h =>
    dsimp only [o_348, E]
    dsimp only [ofS]
    exact rfl
noncomputable def l292 (P : Params) : Obj := by
  refine (fun (_ : o_349 PySem.Challenge.pw_nt0165_01 ofS P = ?o) => ?o) ?h
  case h =>
    dsimp only [o_349, E]
    dsimp only [ofS]
    dsimp only [st15_0_eq]
    dsimp only [fnP, fnB, fnS, st15_0]
    exact rfl
noncomputable def l293 (P : Params) : Obj := by
  refine (fun (_ : o_350 PySem.Challenge.pw_nt0165_01 ofS P = ?o) => ?o) ?h
  case h =>
    dsimp only [o_350, E]
    dsimp only [ofS]
    exact rfl
noncomputable def l294 (P : Params) : Obj := by
  refine (fun (_ : o_351 PySem.Challenge.pw_nt0165_01 ofS P = ?o) => ?o) ?h
  case h =>
    dsimp only [o_351, E]
    dsimp only [ofS]
    exact rfl
noncomputable def l295 (P : Params) : Obj := by
  refine (fun (_ : o_359 PySem.Challenge.pw_nt0165_01 ofS P = ?o) => ?o) ?h
  case h =>
    dsimp only [o_359, E]
    dsimp only [ofS]
    exact rfl
noncomputable def l296 (P : Params) : Obj := by
  refine (fun (_ : o_353 PySem.Challenge.pw_nt0165_01 ofS P = ?o) => ?o) ?h
  case h =>
    dsimp only [o_353, E]
    dsimp only [ofS]
    exact rfl
noncomputable def l297 (P : Params) : Obj := by
  refine (fun (_ : o_354 PySem.Challenge.pw_nt0165_01 ofS P = ?o) => ?o) ?h
  case h =>
    dsimp only [o_354, E]
    dsimp only [ofS]
    exact rfl
noncomputable def l300 (P : Params) : Obj := by
  refine (fun (_ : o_360 PySem.Challenge.pw_nt0165_01 ofS P = ?o) => ?o) ?h
  case h =>
    dsimp only [o_360, E]
    exact rfl
noncomputable def l307 (P : Params) : Obj := by
  refine (fun (_ : o_367 PySem.Challenge.pw_nt0165_01 ofS P = ?o) => ?o) ?h
  case h =>
    dsimp only [o_367, E]
    exact rfl
noncomputable def l309 (P : Params) : Obj := by
  refine (fun (_ : o_369 PySem.Challenge.pw_nt0165_01 ofS P = ?o) => ?o) ?h
  case h =>
    dsimp only [o_369, E]
    dsimp only [ofS]
    exact rfl
noncomputable def l310 (P : Params) : Obj := by
  refine (fun (_ : o_370 PySem.Challenge.pw_nt0165_01 ofS P = ?o) => ?o) ?h
  case h =>
    dsimp only [o_370, E]
    exact rfl
noncomputable def l312 (P : Params) : Obj := by
  refine (fun (_ : o_372 PySem.Challenge.pw_nt0165_01 ofS P = ?o) => ?o) ?h
  case h =>
    dsimp only [o_372, E]
    dsimp only [ofS]
    exact rfl
noncomputable def l313 (P : Params) : Obj := by
  refine (fun (_ : o_373 PySem.Challenge.pw_nt0165_01 ofS P = ?o) => ?o) ?h
  case h =>
    dsimp only [o_373, E]
    dsimp only [ofS]
    dsimp only [st16_0_eq]
    dsimp only [fnP, fnB, fnS, st16_0]
    exact rfl
noncomputable def l314 (P : Params) : Obj := by
  refine (fun (_ : o_374 PySem.Challenge.pw_nt0165_01 ofS P = ?o) => ?o) ?h
  case h =>
    dsimp only [o_374, E]
    dsimp only [ofS]
    exact rfl
noncomputable def l315 (P : Params) : Obj := by
  refine (fun (_ : o_375 PySem.Challenge.pw_nt0165_01 ofS P = ?o) => ?o) ?h
  case h =>
    dsimp only [o_375, E]
    dsimp only [ofS]
    exact rfl
noncomputable def l316 (P : Params) : Obj := by
  refine (fun (_ : o_376 PySem.Challenge.pw_nt0165_01 ofS P = ?o) => ?o) ?h
  case h =>
    dsimp only [o_376, E]
    dsimp only [ofS]
    exact rfl
noncomputable def l319 (P : Params) : Obj := by
  refine (fun (_ : o_379 PySem.Challenge.pw_nt0165_01 ofS P = ?o) => ?o) ?h
  case h =>
    dsimp only [o_379, E]
    exact rfl
noncomputable def l322 (P : Params) : Obj := by
  refine (fun (_ : o_382 PySem.Challenge.pw_nt0165_01 ofS P = ?o) => ?o) ?h
  case h =>
    dsimp only [o_382, E]
    dsimp only [ofS]
    exact rfl
noncomputable def l323 (P : Params) : Obj := by
  refine (fun (_ : o_383 PySem.Challenge.pw_nt0165_01 ofS P = ?o) => ?o) ?h
  case h =>
    dsimp only [o_383, E]
    dsimp only [ofS]
    dsimp only [st17_eq]
    dsimp only [fnP, fnB, fnS, st17]
    exact rfl
noncomputable def l324 (P : Params) : Obj := by
  refine (fun (_ : o_384 PySem.Challenge.pw_nt0165_01 ofS P = ?o) => ?o) ?h
  case h =>
    dsimp only [o_384, E]
    exact rfl
noncomputable def l327 (P : Params) : Obj := by
  refine (fun (_ : o_387 PySem.Challenge.pw_nt0165_01 ofS P = ?o) => ?o) ?h
  case h =>
    dsimp only [o_387, E]
    dsimp only [ofS]
    exact rfl
noncomputable def l328 (P : Params) : Obj := by
  refine (fun (_ : o_388 PySem.Challenge.pw_nt0165_01 ofS P = ?o) => ?o) ?h
  case h =>
    dsimp only [o_388, E]
    dsimp only [ofS]
    dsimp only [st18_eq]
    dsimp only [fnP, fnB, fnS, st18]
    exact rfl
noncomputable def l329 (P : Params) : Obj := by
  refine (fun (_ : o_389 PySem.Challenge.pw_nt0165_01 ofS P = ?o) => ?o) ?h
  case h =>
    dsimp only [o_389, E]
    exact rfl
noncomputable def l330 (P : Params) : Obj := by
  refine (fun (_ : o_390 PySem.Challenge.pw_nt0165_01 ofS P = ?o) => ?o) ?h
  case h =>
    dsimp only [o_390, E]
    exact rfl
noncomputable def l332 (P : Params) : Obj := by
  refine (fun (_ : o_392 PySem.Challenge.pw_nt0165_01 ofS P = ?o) => ?o) ?h
  case h =>
    dsimp only [o_392, E]
    dsimp only [ofS]
    exact rfl
noncomputable def l333 (P : Params) : Obj := by
  refine (fun (_ : o_393 PySem.Challenge.pw_nt0165_01 ofS P = ?o) => ?o) ?h
  case h =>
    dsimp only [o_393, E]
    exact rfl
noncomputable def l335 (P : Params) : Obj := by
  refine (fun (_ : o_395 PySem.Challenge.pw_nt0165_01 ofS P = ?o) => ?o) ?h
  case h =>
    dsimp only [o_395, E]
    dsimp only [ofS]
    exact rfl
noncomputable def l336 (P : Params) : Obj := by
  refine (fun (_ : o_396 PySem.Challenge.pw_nt0165_01 ofS P = ?o) => ?o) ?h
  case h =>
    dsimp only [o_396, E]
    dsimp only [ofS]
    dsimp only [st19_eq]
    dsimp only [fnP, fnB, fnS, st19]
    exact rfl
noncomputable def l337 (P : Params) : Obj := by
  refine (fun (_ : o_397 PySem.Challenge.pw_nt0165_01 ofS P = ?o) => ?o) ?h
  case h =>
    dsimp only [o_397, E]
    exact rfl
noncomputable def l339 (P : Params) : Obj := by
  refine (fun (_ : o_399 PySem.Challenge.pw_nt0165_01 ofS P = ?o) => ?o) ?h
  case h =>
    dsimp only [o_399, E]
    dsimp only [ofS]
    exact rfl
noncomputable def l340 (P : Params) : Obj := by
  refine (fun (_ : o_400 PySem.Challenge.pw_nt0165_01 ofS P = ?o) => ?o) ?h
  case h =>
    dsimp only [o_400, E]
    exact rfl
noncomputable def l342 (P : Params) : Obj := by
  refine (fun (_ : o_402 PySem.Challenge.pw_nt0165_01 ofS P = ?o) => ?o) ?h
  case h =>
    dsimp only [o_402, E]
    dsimp only [ofS]
    exact rfl
noncomputable def l343 (P : Params) : Obj := by
  refine (fun (_ : o_403 PySem.Challenge.pw_nt0165_01 ofS P = ?o) => ?o) ?h
  case h =>
    dsimp only [o_403, E]
    dsimp only [ofS]
    dsimp only [st20_eq]
    dsimp only [fnP, fnB, fnS, st20]
    exact rfl
noncomputable def l344 (P : Params) : Obj := by
  refine (fun (_ : o_404 PySem.Challenge.pw_nt0165_01 ofS P = ?o) => ?o) ?h
  case h =>
    dsimp only [o_404, E]
    exact rfl
noncomputable def l346 (P : Params) : Obj := by
  refine (fun (_ : o_406 PySem.Challenge.pw_nt0165_01 ofS P = ?o) => ?o) ?h
  case h =>
    dsimp only [o_406, E]
    dsimp only [ofS]
    exact rfl
noncomputable def l347 (P : Params) : Obj := by
  refine (fun (_ : o_407 PySem.Challenge.pw_nt0165_01 ofS P = ?o) => ?o) ?h
  case h =>
    dsimp only [o_407, E]
    exact rfl
noncomputable def l349 (P : Params) : Obj := by
  refine (fun (_ : o_409 PySem.Challenge.pw_nt0165_01 ofS P = ?o) => ?o) ?h
  case h =>
    dsimp only [o_409, E]
    dsimp only [ofS]
    exact rfl
noncomputable def l350 (P : Params) : Obj := by
  refine (fun (_ : o_410 PySem.Challenge.pw_nt0165_01 ofS P = ?o) => ?o) ?h
  case h =>
    dsimp only [o_410, E]
    dsimp only [ofS]
    dsimp only [st21_eq]
    dsimp only [fnP, fnB, fnS, st21]
    exact rfl
noncomputable def l351 (P : Params) : Obj := by
  refine (fun (_ : o_413 PySem.Challenge.pw_nt0165_01 ofS P = ?o) => ?o) ?h
  case h =>
    dsimp only [o_413, E]
    exact rfl
noncomputable def l353 (P : Params) : Obj := by
  refine (fun (_ : o_415 PySem.Challenge.pw_nt0165_01 ofS P = ?o) => ?o) ?h
  case h =>
    dsimp only [o_415, E]
    dsimp only [ofS]
    exact rfl
noncomputable def l354 (P : Params) : Obj := by
  refine (fun (_ : o_416 PySem.Challenge.pw_nt0165_01 ofS P = ?o) => ?o) ?h
  case h =>
    dsimp only [o_416, E]
    exact rfl
noncomputable def l356 (P : Params) : Obj := by
  refine (fun (_ : o_418 PySem.Challenge.pw_nt0165_01 ofS P = ?o) => ?o) ?h
  case h =>
    dsimp only [o_418, E]
    dsimp only [ofS]
    exact rfl
noncomputable def l357 (P : Params) : Obj := by
  refine (fun (_ : o_419 PySem.Challenge.pw_nt0165_01 ofS P = ?o) => ?o) ?h
  case h =>
    dsimp only [o_419, E]
    dsimp only [ofS]
    dsimp only [st22_eq]
    dsimp only [fnP, fnB, fnS, st22]
    exact rfl
noncomputable def l358 (P : Params) : Obj := by
  refine (fun (_ : o_420 PySem.Challenge.pw_nt0165_01 ofS P = ?o) => ?o) ?h
  case h =>
    dsimp only [o_420, E]
    exact rfl
noncomputable def l360 (P : Params) : Obj := by
  refine (fun (_ : o_422 PySem.Challenge.pw_nt0165_01 ofS P = ?o) => ?o) ?h
  case h =>
    dsimp only [o_422, E]
    dsimp only [ofS]
    exact rfl
noncomputable def l361 (P : Params) : Obj := by
  refine (fun (_ : o_423 PySem.Challenge.pw_nt0165_01 ofS P = ?o) => ?o) ?h
  case h =>
    dsimp only [o_423, E]
    exact rfl
noncomputable def l363 (P : Params) : Obj := by
  refine (fun (_ : o_425 PySem.Challenge.pw_nt0165_01 ofS P = ?o) => ?o) ?h
  case h =>
    dsimp only [o_425, E]
    dsimp only [ofS]
    exact rfl
noncomputable def l364 (P : Params) : Obj := by
  refine (fun (_ : o_426 PySem.Challenge.pw_nt0165_01 ofS P = ?o) => ?o) ?h
  case h =>
    dsimp only [o_426, E]
    dsimp only [ofS]
    dsimp only [st23_eq]
    dsimp only [fnP, fnB, fnS, st23]
    exact rfl
noncomputable def l365 (P : Params) : Obj := by
  refine (fun (_ : o_427 PySem.Challenge.pw_nt0165_01 ofS P = ?o) => ?o) ?h
  case h =>
    dsimp only [o_427, E]
    exact rfl
noncomputable def l367 (P : Params) : Obj := by
  refine (fun (_ : o_429 PySem.Challenge.pw_nt0165_01 ofS P = ?o) => ?o) ?h
  case h =>
    dsimp only [o_429, E]
    dsimp only [ofS]
    exact rfl
noncomputable def l368 (P : Params) : Obj := by
  refine (fun (_ : o_430 PySem.Challenge.pw_nt0165_01 ofS P = ?o) => ?o) ?h
  case h =>
    dsimp only [o_430, E]
    exact rfl
noncomputable def l370 (P : Params) : Obj := by
  refine (fun (_ : o_432 PySem.Challenge.pw_nt0165_01 ofS P = ?o) => ?o) ?h
  case h =>
    dsimp only [o_432, E]
    dsimp only [ofS]
    exact rfl
noncomputable def l371 (P : Params) : Obj := by
  refine (fun (_ : o_433 PySem.Challenge.pw_nt0165_01 ofS P = ?o) => ?o) ?h
  case h =>
    dsimp only [o_433, E]
    dsimp only [ofS]
    dsimp only [st24_eq]
    dsimp only [fnP, fnB, fnS, st24]
    exact rfl
noncomputable def l372 (P : Params) : Obj := by
  refine (fun (_ : o_434 PySem.Challenge.pw_nt0165_01 ofS P = ?o) => ?o) ?h
  case h =>
    dsimp only [o_434, E]
    exact rfl
noncomputable def l374 (P : Params) : Obj := by
  refine (fun (_ : o_436 PySem.Challenge.pw_nt0165_01 ofS P = ?o) => ?o) ?h
  case h =>
    dsimp only [o_436, E]
    dsimp only [ofS]
    exact rfl
noncomputable def l375 (P : Params) : Obj := by
  refine (fun (_ : o_437 PySem.Challenge.pw_nt0165_01 ofS P = ?o) => ?o) ?h
  case h =>
    dsimp only [o_437, E]
    exact rfl
noncomputable def l377 (P : Params) : Obj := by
  refine (fun (_ : o_439 PySem.Challenge.pw_nt0165_01 ofS P = ?o) => ?o) ?h
  case h =>
    dsimp only [o_439, E]
    dsimp only [ofS]
    exact rfl
noncomputable def l378 (P : Params) : Obj := by
  refine (fun (_ : o_440 PySem.Challenge.pw_nt0165_01 ofS P = ?o) => ?o) ?h
  case h =>
    dsimp only [o_440, E]
    dsimp only [ofS]
    dsimp only [st25_eq]
    dsimp only [fnP, fnB, fnS, st25]
    exact rfl
noncomputable def l379 (P : Params) : Obj := by
  refine (fun (_ : o_441 PySem.Challenge.pw_nt0165_01 ofS P = ?o) => ?o) ?h
  case h =>
    dsimp only [o_441, E]
    exact rfl
noncomputable def l381 (P : Params) : Obj := by
  refine (fun (_ : o_443 PySem.Challenge.pw_nt0165_01 ofS P = ?o) => ?o) ?h
  case h =>
    dsimp only [o_443, E]
    dsimp only [ofS]
    exact rfl
noncomputable def l382 (P : Params) : Obj := by
  refine (fun (_ : o_444 PySem.Challenge.pw_nt0165_01 ofS P = ?o) => ?o) ?h
  case h =>
    dsimp only [o_444, E]
    exact rfl
noncomputable def l384 (P : Params) : Obj := by
  refine (fun (_ : o_446 PySem.Challenge.pw_nt0165_01 ofS P = ?o) => ?o) ?h
  case h =>
    dsimp only [o_446, E]
    dsimp only [ofS]
    exact rfl
noncomputable def l385 (P : Params) : Obj := by
  refine (fun (_ : o_447 PySem.Challenge.pw_nt0165_01 ofS P = ?o) => ?o) ?h
  case h =>
    dsimp only [o_447, E]
    dsimp only [ofS]
    dsimp only [st26_eq]
    dsimp only [fnP, fnB, fnS, st26]
    exact rfl
noncomputable def l386 (P : Params) : Obj := by
  refine (fun (_ : o_448 PySem.Challenge.pw_nt0165_01 ofS P = ?o) => ?o) ?h
  case h =>
    dsimp only [o_448, E]
    exact rfl
noncomputable def l388 (P : Params) : Obj := by
  refine (fun (_ : o_450 PySem.Challenge.pw_nt0165_01 ofS P = ?o) => ?o) ?h
  case h =>
    dsimp only [o_450, E]
    dsimp only [ofS]
    exact rfl
noncomputable def l389 (P : Params) : Obj := by
  refine (fun (_ : o_451 PySem.Challenge.pw_nt0165_01 ofS P = ?o) => ?o) ?h
  case h =>
    dsimp only [o_451, E]
    exact rfl
noncomputable def l391 (P : Params) : Obj := by
  refine (fun (_ : o_453 PySem.Challenge.pw_nt0165_01 ofS P = ?o) => ?o) ?h
  case h =>
    dsimp only [o_453, E]
    dsimp only [ofS]
    exact rfl
noncomputable def l392 (P : Params) : Obj := by
  refine (fun (_ : o_454 PySem.Challenge.pw_nt0165_01 ofS P = ?o) => ?o) ?h
  case h =>
    dsimp only [o_454, E]
    dsimp only [ofS]
    dsimp only [st27_eq]
    dsimp only [fnP, fnB, fnS, st27]
    exact rfl
noncomputable def l393 (P : Params) : Obj := by
  refine (fun (_ : o_455 PySem.Challenge.pw_nt0165_01 ofS P = ?o) => ?o) ?h
  case h =>
    dsimp only [o_455, E]
    exact rfl
noncomputable def l395 (P : Params) : Obj := by
  refine (fun (_ : o_457 PySem.Challenge.pw_nt0165_01 ofS P = ?o) => ?o) ?h
  case h =>
    dsimp only [o_457, E]
    dsimp only [ofS]
    exact rfl
noncomputable def l396 (P : Params) : Obj := by
  refine (fun (_ : o_458 PySem.Challenge.pw_nt0165_01 ofS P = ?o) => ?o) ?h
  case h =>
    dsimp only [o_458, E]
    exact rfl
noncomputable def l398 (P : Params) : Obj := by
  refine (fun (_ : o_460 PySem.Challenge.pw_nt0165_01 ofS P = ?o) => ?o) ?h
  case h =>
    dsimp only [o_460, E]
    dsimp only [ofS]
    exact rfl
noncomputable def l399 (P : Params) : Obj := by
  refine (fun (_ : o_461 PySem.Challenge.pw_nt0165_01 ofS P = ?o) => ?o) ?h
  case h =>
    dsimp only [o_461, E]
    dsimp only [ofS]
    dsimp only [st29_eq]
    dsimp only [fnP, fnB, fnS, st29]
    exact rfl
noncomputable def l400 (P : Params) : Obj := by
  refine (fun (_ : o_462 PySem.Challenge.pw_nt0165_01 ofS P = ?o) => ?o) ?h
  case h =>
    dsimp only [o_462, E]
    exact rfl
noncomputable def l403 (P : Params) : Obj := by
  refine (fun (_ : o_465 PySem.Challenge.pw_nt0165_01 ofS P = ?o) => ?o) ?h
  case h =>
    dsimp only [o_465, E]
    dsimp only [ofS]
    exact rfl
noncomputable def l404 (P : Params) : Obj := by
  refine (fun (_ : o_466 PySem.Challenge.pw_nt0165_01 ofS P = ?o) => ?o) ?h
  case h =>
    dsimp only [o_466, E]
    dsimp only [ofS]
    dsimp only [st30_eq]
    dsimp only [fnP, fnB, fnS, st30]
    exact rfl
noncomputable def l405 (P : Params) : Obj := by
  refine (fun (_ : o_467 PySem.Challenge.pw_nt0165_01 ofS P = ?o) => ?o) ?h
  case h =>
    dsimp only [o_467, E]
    exact rfl
noncomputable def l408 (P : Params) : Obj := by
  refine (fun (_ : o_470 PySem.Challenge.pw_nt0165_01 ofS P = ?o) => ?o) ?h
  case h =>
    dsimp only [o_470, E]
    dsimp only [ofS]
    exact rfl
noncomputable def l409 (P : Params) : Obj := by
  refine (fun (_ : o_471 PySem.Challenge.pw_nt0165_01 ofS P = ?o) => ?o) ?h
  case h =>
    dsimp only [o_471, E]
    dsimp only [ofS]
    dsimp only [st31_eq]
    dsimp only [fnP, fnB, fnS, st31]
    exact rfl
noncomputable def l410 (P : Params) : Obj := by
  refine (fun (_ : o_472 PySem.Challenge.pw_nt0165_01 ofS P = ?o) => ?o) ?h
  case h =>
    dsimp only [o_472, E]
    exact rfl
noncomputable def l413 (P : Params) : Obj := by
  refine (fun (_ : o_475 PySem.Challenge.pw_nt0165_01 ofS P = ?o) => ?o) ?h
  case h =>
    dsimp only [o_475, E]
    dsimp only [ofS]
    exact rfl
noncomputable def l414 (P : Params) : Obj := by
  refine (fun (_ : o_476 PySem.Challenge.pw_nt0165_01 ofS P = ?o) => ?o) ?h
  case h =>
    dsimp only [o_476, E]
    dsimp only [ofS]
    dsimp only [st32_eq]
    dsimp only [fnP, fnB, fnS, st32]
    exact rfl
noncomputable def l415 (P : Params) : Obj := by
  refine (fun (_ : o_477 PySem.Challenge.pw_nt0165_01 ofS P = ?o) => ?o) ?h
  case h =>
    dsimp only [o_477, E]
    exact rfl
noncomputable def l418 (P : Params) : Obj := by
  refine (fun (_ : o_480 PySem.Challenge.pw_nt0165_01 ofS P = ?o) => ?o) ?h
  case h =>
    dsimp only [o_480, E]
    dsimp only [ofS]
    exact rfl
noncomputable def l419 (P : Params) : Obj := by
  refine (fun (_ : o_481 PySem.Challenge.pw_nt0165_01 ofS P = ?o) => ?o) ?h
  case h =>
    dsimp only [o_481, E]
    dsimp only [ofS]
    dsimp only [st33_eq]
    dsimp only [fnP, fnB, fnS, st33]
    exact rfl
noncomputable def K : Params → Frag := fun P => (nat_lit 2, l2 P) :: (nat_lit 3, l3 P) :: (nat_lit 22, l22 P) :: (nat_lit 24, l24 P) :: (nat_lit 25, l25 P) :: (nat_lit 27, l27 P) :: (nat_lit 28, l28 P) :: (nat_lit 29, l29 P) :: (nat_lit 30, l30 P) :: (nat_lit 31, l31 P) :: (nat_lit 32, l32 P) :: (nat_lit 33, l33 P) :: (nat_lit 36, l36 P) :: (nat_lit 37, l37 P) :: (nat_lit 39, l39 P) :: (nat_lit 40, l40 P) :: (nat_lit 42, l42 P) :: (nat_lit 43, l43 P) :: (nat_lit 45, l45 P) :: (nat_lit 46, l46 P) :: (nat_lit 55, l55 P) :: (nat_lit 57, l57 P) :: (nat_lit 58, l58 P) :: (nat_lit 60, l60 P) :: (nat_lit 61, l61 P) :: (nat_lit 62, l62 P) :: (nat_lit 63, l63 P) :: (nat_lit 64, l64 P) :: (nat_lit 65, l65 P) :: (nat_lit 66, l66 P) :: (nat_lit 76, l76 P) :: (nat_lit 78, l78 P) :: (nat_lit 79, l79 P) :: (nat_lit 81, l81 P) :: (nat_lit 82, l82 P) :: (nat_lit 83, l83 P) :: (nat_lit 85, l85 P) :: (nat_lit 86, l86 P) :: (nat_lit 88, l88 P) :: (nat_lit 89, l89 P) :: (nat_lit 90, l90 P) :: (nat_lit 92, l92 P) :: (nat_lit 93, l93 P) :: (nat_lit 95, l95 P) :: (nat_lit 96, l96 P) :: (nat_lit 97, l97 P) :: (nat_lit 99, l99 P) :: (nat_lit 100, l100 P) :: (nat_lit 102, l102 P) :: (nat_lit 103, l103 P) :: (nat_lit 104, l104 P) :: (nat_lit 106, l106 P) :: (nat_lit 107, l107 P) :: (nat_lit 109, l109 P) :: (nat_lit 110, l110 P) :: (nat_lit 111, l111 P) :: (nat_lit 113, l113 P) :: (nat_lit 114, l114 P) :: (nat_lit 116, l116 P) :: (nat_lit 117, l117 P) :: (nat_lit 118, l118 P) :: (nat_lit 120, l120 P) :: (nat_lit 121, l121 P) :: (nat_lit 123, l123 P) :: (nat_lit 124, l124 P) :: (nat_lit 125, l125 P) :: (nat_lit 126, l126 P) :: (nat_lit 127, l127 P) :: (nat_lit 128, l128 P) :: (nat_lit 129, l129 P) :: (nat_lit 139, l139 P) :: (nat_lit 141, l141 P) :: (nat_lit 142, l142 P) :: (nat_lit 144, l144 P) :: (nat_lit 145, l145 P) :: (nat_lit 146, l146 P) :: (nat_lit 147, l147 P) :: (nat_lit 148, l148 P) :: (nat_lit 149, l149 P) :: (nat_lit 150, l150 P) :: (nat_lit 160, l160 P) :: (nat_lit 162, l162 P) :: (nat_lit 163, l163 P) :: (nat_lit 165, l165 P) :: (nat_lit 166, l166 P) :: (nat_lit 167, l167 P) :: (nat_lit 168, l168 P) :: (nat_lit 169, l169 P) :: (nat_lit 170, l170 P) :: (nat_lit 171, l171 P) :: (nat_lit 181, l181 P) :: (nat_lit 183, l183 P) :: (nat_lit 184, l184 P) :: (nat_lit 186, l186 P) :: (nat_lit 187, l187 P) :: (nat_lit 188, l188 P) :: (nat_lit 189, l189 P) :: (nat_lit 190, l190 P) :: (nat_lit 191, l191 P) :: (nat_lit 192, l192 P) :: (nat_lit 202, l202 P) :: (nat_lit 204, l204 P) :: (nat_lit 205, l205 P) :: (nat_lit 207, l207 P) :: (nat_lit 208, l208 P) :: (nat_lit 209, l209 P) :: (nat_lit 210, l210 P) :: (nat_lit 211, l211 P) :: (nat_lit 212, l212 P) :: (nat_lit 213, l213 P) :: (nat_lit 223, l223 P) :: (nat_lit 225, l225 P) :: (nat_lit 226, l226 P) :: (nat_lit 228, l228 P) :: (nat_lit 229, l229 P) :: (nat_lit 230, l230 P) :: (nat_lit 231, l231 P) :: (nat_lit 232, l232 P) :: (nat_lit 233, l233 P) :: (nat_lit 234, l234 P) :: (nat_lit 244, l244 P) :: (nat_lit 246, l246 P) :: (nat_lit 247, l247 P) :: (nat_lit 249, l249 P) :: (nat_lit 250, l250 P) :: (nat_lit 251, l251 P) :: (nat_lit 252, l252 P) :: (nat_lit 253, l253 P) :: (nat_lit 254, l254 P) :: (nat_lit 255, l255 P) :: (nat_lit 265, l265 P) :: (nat_lit 267, l267 P) :: (nat_lit 268, l268 P) :: (nat_lit 270, l270 P) :: (nat_lit 271, l271 P) :: (nat_lit 272, l272 P) :: (nat_lit 273, l273 P) :: (nat_lit 274, l274 P) :: (nat_lit 275, l275 P) :: (nat_lit 276, l276 P) :: (nat_lit 286, l286 P) :: (nat_lit 288, l288 P) :: (nat_lit 289, l289 P) :: (nat_lit 291, l291 P) :: (nat_lit 292, l292 P) :: (nat_lit 293, l293 P) :: (nat_lit 294, l294 P) :: (nat_lit 295, l295 P) :: (nat_lit 296, l296 P) :: (nat_lit 297, l297 P) :: (nat_lit 300, l300 P) :: (nat_lit 307, l307 P) :: (nat_lit 309, l309 P) :: (nat_lit 310, l310 P) :: (nat_lit 312, l312 P) :: (nat_lit 313, l313 P) :: (nat_lit 314, l314 P) :: (nat_lit 315, l315 P) :: (nat_lit 316, l316 P) :: (nat_lit 319, l319 P) :: (nat_lit 322, l322 P) :: (nat_lit 323, l323 P) :: (nat_lit 324, l324 P) :: (nat_lit 327, l327 P) :: (nat_lit 328, l328 P) :: (nat_lit 329, l329 P) :: (nat_lit 330, l330 P) :: (nat_lit 332, l332 P) :: (nat_lit 333, l333 P) :: (nat_lit 335, l335 P) :: (nat_lit 336, l336 P) :: (nat_lit 337, l337 P) :: (nat_lit 339, l339 P) :: (nat_lit 340, l340 P) :: (nat_lit 342, l342 P) :: (nat_lit 343, l343 P) :: (nat_lit 344, l344 P) :: (nat_lit 346, l346 P) :: (nat_lit 347, l347 P) :: (nat_lit 349, l349 P) :: (nat_lit 350, l350 P) :: (nat_lit 351, l351 P) :: (nat_lit 353, l353 P) :: (nat_lit 354, l354 P) :: (nat_lit 356, l356 P) :: (nat_lit 357, l357 P) :: (nat_lit 358, l358 P) :: (nat_lit 360, l360 P) :: (nat_lit 361, l361 P) :: (nat_lit 363, l363 P) :: (nat_lit 364, l364 P) :: (nat_lit 365, l365 P) :: (nat_lit 367, l367 P) :: (nat_lit 368, l368 P) :: (nat_lit 370, l370 P) :: (nat_lit 371, l371 P) :: (nat_lit 372, l372 P) :: (nat_lit 374, l374 P) :: (nat_lit 375, l375 P) :: (nat_lit 377, l377 P) :: (nat_lit 378, l378 P) :: (nat_lit 379, l379 P) :: (nat_lit 381, l381 P) :: (nat_lit 382, l382 P) :: (nat_lit 384, l384 P) :: (nat_lit 385, l385 P) :: (nat_lit 386, l386 P) :: (nat_lit 388, l388 P) :: (nat_lit 389, l389 P) :: (nat_lit 391, l391 P) :: (nat_lit 392, l392 P) :: (nat_lit 393, l393 P) :: (nat_lit 395, l395 P) :: (nat_lit 396, l396 P) :: (nat_lit 398, l398 P) :: (nat_lit 399, l399 P) :: (nat_lit 400, l400 P) :: (nat_lit 403, l403 P) :: (nat_lit 404, l404 P) :: (nat_lit 405, l405 P) :: (nat_lit 408, l408 P) :: (nat_lit 409, l409 P) :: (nat_lit 410, l410 P) :: (nat_lit 413, l413 P) :: (nat_lit 414, l414 P) :: (nat_lit 415, l415 P) :: (nat_lit 418, l418 P) :: (nat_lit 419, l419 P) :: []
theorem K_is : Kof PySem.Challenge.pw_nt0165_01 ofS = K := rfl
theorem KA2 (P : Params) : addrsL = (K P).map (·.1) := KA P
end Mine
end
section
open PySem PySem.W PyProof.Rows PySem.Calls PySem.Spec
namespace Mine
theorem ltAll {d a : Nat} {o : Obj} {l : List (Addr × Obj)} (h : ∀ p ∈ l, @LT.lt Nat _ p.1 d) (m : (a, o) ∈ l) : @LT.lt Nat _ a d := h _ m
theorem ltUp {a b c : Nat} (h : a < b) (k : b < c) : a < c := Nat.lt_trans h k
theorem ltDn {a b c : Nat} (k : b < c) (h : a < b) : a < c := Nat.lt_trans h k
theorem lim1 {a b D n : Nat} (h : a + D < n) (e : Nat.ble b D = true) : a + b < n := Nat.lt_of_le_of_lt (Nat.add_le_add_left (Nat.le_of_ble_eq_true e) a) h
theorem lim2 {a b c D n : Nat} (h : a + D < n) (e : Nat.ble (b + c) D = true) : a + b + c < n := Nat.add_assoc a b c ▸ lim1 h e
theorem lim3 {a b c d D n : Nat} (h : a + D < n) (e : Nat.ble (b + c + d) D = true) : a + b + c + d < n := by
  rw [Nat.add_assoc, Nat.add_assoc, ← Nat.add_assoc b]; exact lim1 h e
theorem lim4 {a b c d e' D n : Nat} (h : a + D < n) (e : Nat.ble (b + c + d + e') D = true) : a + b + c + d + e' < n := by
  rw [show a + b + c + d + e' = a + (b + c + d + e') by omega]; exact lim1 h e
theorem lim0 {a D n : Nat} (h : a + D < n) : a < n := Nat.lt_of_le_of_lt (Nat.le_add_right a D) h
theorem subTail {α : Type} {l l' : List α} {x : α} (s : ∀ p ∈ l', p ∈ l) : ∀ p ∈ l', p ∈ x :: l := fun p hp => .tail _ (s p hp)
theorem allC {α : Type} {P : α → Prop} {a : α} {l : List α} (h : P a) (r : ∀ p ∈ l, P p) : ∀ p ∈ a :: l, P p := List.forall_mem_cons.mpr ⟨h, r⟩
theorem allNe {d : Nat} {l l' : List (Addr × Obj)} (h : ∀ p ∈ l, @LT.lt Nat _ p.1 d) (s : ∀ p ∈ l', p ∈ l) : ∀ p ∈ l', @Ne Nat p.1 d := fun p hp => Nat.ne_of_lt (h p (s p hp))
theorem allCons {d a : Nat} {o : Obj} {l : List (Addr × Obj)} (h : a ≠ d) (r : ∀ p ∈ l, @Ne Nat p.1 d) : ∀ p ∈ (a, o) :: l, @Ne Nat p.1 d := List.forall_mem_cons.mpr ⟨h, r⟩
end Mine
end
section
open PySem PySem.W PyProof.Rows PySem.Calls PySem.Spec
local macro_rules | `(tactic| walk_at "Mlt") => `(tactic| first | assumption | exact Mine.ltAll (by assumption) (by k_mem) | exact Nat.lt_succ_self _ | ((fail_if_success (with_reducible show @LT.lt Nat _ _ (OfNat.ofNat _))); refine Nat.lt_succ_of_lt ?_; walk_at "Mlt") | (refine Mine.ltDn (by assumption) ?_; walk_at "Mlt"))
local macro_rules | `(tactic| walk_at "Mlu") => `(tactic| first | assumption | exact Mine.ltAll (by assumption) (by k_mem) | exact Nat.lt_succ_self _ | (refine Mine.ltUp (by assumption) ?_; walk_at "Mlu"))
local macro_rules | `(tactic| k_ne) => `(tactic| k_dflt (refine neN ?_; (try dsimp only); first | assumption | exact Ne.symm (by assumption) | exact Nat.ne_of_lt (by walk_at "Mlt") | exact Nat.ne_of_gt (by walk_at "Mlt") | exact Nat.ne_of_lt (by walk_at "Mlu") | exact Nat.ne_of_gt (by walk_at "Mlu") | exact And.left (by assumption) | exact And.left (And.right (by assumption)) | exact And.right (And.right (by assumption)) | exact Ne.symm (And.left (by assumption)) | exact Ne.symm (And.left (And.right (by assumption))) | exact Ne.symm (And.right (And.right (by assumption))) | omega))
local macro_rules | `(tactic| walk_at "Msub") => `(tactic| first | exact fun _ q => q | (refine Mine.subTail ?_; walk_at "Msub"))
local macro_rules | `(tactic| k_all) => `(tactic| first | exact List.forall_mem_nil _ | exact Mine.allNe (by assumption) (by with_reducible walk_at "Msub") | (refine Mine.allCons ?a ?b; (case a => k_ne); (case b => k_all)))
local macro_rules | `(tactic| k_lt $h:ident) => `(tactic| skip)
local macro_rules | `(tactic| walk_at "Mps") => `(tactic| first | exact List.forall_mem_nil _ | (refine Mine.allC ?a ?b; (case a => rfl); (case b => walk_at "Mps")))
local macro_rules | `(tactic| walk_at "call builtin:list.append") => `(tactic| (k_here; k_dflt (refine' append_K ?a ?b ?c ?_ ?z; (case a => k_asm); (case b => k_asm); (case c => k_upd); (case z => walk_at "Mz"); k_whole); intro h' F' N'; (try k_sweep)))
local macro_rules | `(tactic| walk_at "Mall") => `(tactic| first | exact List.forall_mem_nil _ | (refine Mine.allC ?a ?b; (case a => k_mem); (case b => walk_at "Mall")))
section
local macro_rules | `(tactic| walk_at "Mlim") => `(tactic| k_dflt (first | exact Mine.lim1 (by assumption) (by exact rfl) | exact Mine.lim2 (by assumption) (by exact rfl) | exact Mine.lim3 (by assumption) (by exact rfl) | exact Mine.lim0 (by assumption) | exact Mine.lim4 (by assumption) (by exact rfl)))
local macro_rules | `(tactic| ktr_room) => `(tactic| walk_at "Mlim")
local macro_rules | `(tactic| ktr_units) => `(tactic| walk_at "Mlim")
local macro_rules | `(tactic| k_room) => `(tactic| ktr_room)
local macro_rules | `(tactic| k_units) => `(tactic| ktr_units)
section
open PySem PySem.W PyProof.Rows PySem.Calls PySem.Spec
namespace Mine

/-- all of h stands in h' but the addresses of ks -/
def Stays (ks : List Addr) (h h' : Heap) : Prop := ∀ b o, h.get? b = some o → b ∉ ks → h'.get? b = some o
theorem Stays.refl (ks : List Addr) (h : Heap) : Stays ks h h := fun _ _ e _ => e
theorem Stays.trans {ks : List Addr} {h h' h'' : Heap} (x : Stays ks h h') (y : Stays ks h' h'') : Stays ks h h'' := fun b o e n => y b o (x b o e n) n

section
variable {prog : Program} {w : World} {A A₀ : Around} {E : Value → Shared → Prop} {s : Shared} {K : Frag} {L : Addr} {h₀ base : Heap} {m mg mb : Str → Option Value} {mods : List (Addr × Obj)} {p : Program} {loose : List Str} {mean : ExcName → Option Value} {Q : Value → Shared → Prop}

theorem enterH {env : Env} {outer : List Env} {name qual : Str} {params : Arguments} {body : List Stmt} {scope : Scope} {dV kV doc pm cdv ct oc : Value} {an od : Option Addr} {osl : Array (Option Value)} {f : Addr} {args : Args} {binds : List (Str × Value)}
    (B : Below A₀ base outer h₀) (F : Fr h₀ L s.heap m) (X₀ : K.In h₀) (N : News h₀ L s.heap mods) (T : Top p loose mean mg mb h₀) (hA : A.frames = some (env :: outer)) (hf : env.frame = some L) (hke : env.scope.kind = .function)
    (ho : K.lookup f = some ⟨oc, od, .func (fnOf name qual params body scope dV kV doc pm an cdv ct), osl⟩) (hcd : codeIn K cdv qual = true) (hroom : A.depth < recursionLimit)
    (hbind : BindsTo s (fnOf name qual params body scope dV kV doc pm an cdv ct) args binds) (hloc : ∀ y ∈ binds, scope.names.lookup y.1 = some .local)
    (h : ∀ g L' h₁, Stays (mods.map (·.1)) s.heap g → (∀ b o, g.get? b = some o → s.heap.get? b = some o) → Fr g L' h₁ (fun y => binds.reverse.lookup y) → News g L' h₁ mods → Below A base (env :: outer) g → K.In g → Top p loose mean mg mb g → (∀ p ∈ mods, p.1 < L') →
      wpAny (model prog w) (A.deeper (envOf qual scope L' f cdv)) (execs body (envOf qual scope L' f cdv))
        (fun fl s' => Q (match fl with | .ret v => v | _ => .none) s') (fun _ _ => False)
        { s with heap := h₁, toks := s.toks + binds.length })
    (hco : scope.isCoroutine = false) (hgen : scope.isGenerator = false) (hk : scope.kind = .function)
    (hcell : ∀ x ∈ scope.names, x.2 ≠ .cell) : codeAny (model prog w) A (.call (.ref f) args) (fun r s' => match r with | .ok (.ret v) => Q v s' | .ok _ => False | .error e => E e s') s := by
  obtain ⟨FG, BG, st, _⟩ := groundX (R := fun _ _ => True) B F N hA hf hke
  have KG : K.In (hideAll s.heap (mods.map (·.1))) := X₀.keeps st
  have TG : Top p loose mean mg mb (hideAll s.heap (mods.map (·.1))) := T.keeps st
  refine codeAny_call_def (fd := fnOf name qual params body scope dV kV doc pm an cdv ct) (body := body) (binds := binds) hroom ((X₀.keeps F.keep) _ _ ho) rfl (T.nolimit.keeps F.keep) (codeRec_of (X₀.keeps F.keep) hcd) rfl hbind hcell hloc (fun h₁ hns hk₁ => ?_) hco hgen hk
  refine wpAny_mono (h (hideAll s.heap (mods.map (·.1))) s.heap.objs.size h₁ (fun b o e n => hideAll_get _ e n) (fun b o e => of_hideAll _ e) ⟨hns, fun b o e => hk₁ b o (of_hideAll _ e), Nat.le_of_eq (hideAll_size _ _)⟩
    (fun p hp => ⟨hk₁ _ _ (N p hp).1, Nat.ne_of_lt (Heap.lt_size (N p hp).1), hideAll_none _ (List.mem_map_of_mem hp)⟩) BG KG TG (fun p hp => Heap.lt_size (N p hp).1)) (fun fl s' hl => hl) fun _ _ y => y.elim

/-- what a caller keeps behind a call -/
theorem Fr.stays {h h' : Heap} {ks : List Addr} (F : Fr h₀ L h m) (S : Stays ks h h') (hL : L ∉ ks) (h0 : ∀ a ∈ ks, h₀.get? a = none) : Fr h₀ L h' m := by
  obtain ⟨oL, es, ep, hLo, r⟩ := F.ns
  exact ⟨⟨oL, es, ep, S _ _ hLo hL, r⟩, fun b o e => S _ _ (F.keep b o e) (fun q => by rw [h0 b q] at e; cases e), F.above⟩
theorem News.stays {h h' : Heap} {ks : List Addr} {news : List (Addr × Obj)} (N : News h₀ L h news) (S : Stays ks h h') (hk : ∀ p ∈ news, p.1 ∉ ks) : News h₀ L h' news :=
  fun p hp => ⟨S _ _ (N p hp).1 (hk p hp), (N p hp).2⟩

/-- one object of the ledger was changed by a call -/
theorem stays_upd {h h' : Heap} {d : Addr} {o o' : Obj} {news news' : List (Addr × Obj)} (F : Fr h₀ L h m) (N : News h₀ L h news) (U : Upd d o o' news news') (S : Stays [d] h h') (e : h'.get? d = some o') :
    Fr h₀ L h' m ∧ News h₀ L h' news' := by
  obtain ⟨pre, post, rfl, rfl, h1, h2⟩ := U.split
  have D := N (d, o) (by simp)
  refine ⟨Fr.stays F S (by simpa using Ne.symm D.2.1) (by simpa using D.2.2), fun p hp => ?_⟩
  rcases List.mem_append.mp hp with q | q
  · have P := N p (List.mem_append_left _ q); exact ⟨S _ _ P.1 (by simpa using h1 p q), P.2⟩
  · rcases List.mem_cons.mp q with rfl | q
    · exact ⟨e, D.2⟩
    · have P := N p (List.mem_append_right _ (.tail _ q)); exact ⟨S _ _ P.1 (by simpa using h2 p q), P.2⟩
end
end Mine
end
section
open PySem PySem.W PyProof.Rows PySem.Calls PySem.Spec
namespace Mine
abbrev listO (vs : List Value) (n : Nat) : Obj := { cls := .type "list", data := .seq vs.toArray n }
/-- a call from a def's frame ends in Q, whatever stands around; it may change the objects of ks alone -/
def CallOk (D U : Nat) (w : World) (f : Addr) (vs : List Value) (ks : List (Addr × Obj)) (s : Shared) (Q : Value → Shared → Prop) : Prop :=
  ∀ (p : Program) (loose : List Str) (mean : ExcName → Option Value) (mg mb : Str → Option Value) (dp un : Nat) (gd : Option (List Code)) (cn : Str) (cs : Scope) (a : Addr) (ccd : Value) (cl : List (Str × Addr)) (outer : List Env) (A₀ : Around) (base h₀ : Heap) (L : Addr) (m : Str → Option Value) (E : Value → Shared → Prop),
    Below A₀ base outer h₀ → Fr h₀ L s.heap m → (Mine.K w.params).In h₀ → News h₀ L s.heap ks → Top p loose mean mg mb h₀ → cs.kind = .function → dp + D < recursionLimit → un + U < cLine →
    wpAny (model PySem.Challenge.rw_nt0165_01.row.prog w) (ktrTop dp un gd cn cs L a ccd cl outer) (call (.ref f) vs) Q E s
theorem CallOk.use {D U : Nat} {w : World} {f : Addr} {vs : List Value} {ks : List (Addr × Obj)} {s : Shared} {Q : Value → Shared → Prop} (C : CallOk D U w f vs ks s Q)
    {p : Program} {loose : List Str} {mean : ExcName → Option Value} {mg mb : Str → Option Value} {dp un : Nat} {gd : Option (List Code)} {cn : Str} {cs : Scope} {a : Addr} {ccd : Value} {cl : List (Str × Addr)} {outer : List Env} {A₀ : Around} {base h₀ : Heap} {L : Addr} {m : Str → Option Value} {E : Value → Shared → Prop}
    (B : Below A₀ base outer h₀) (F : Fr h₀ L s.heap m) (X : (Mine.K w.params).In h₀) (N : News h₀ L s.heap ks) (T : Top p loose mean mg mb h₀) (hk : cs.kind = .function) (hd : dp + D < recursionLimit) (hu : un + U < cLine) :
    wpAny (model PySem.Challenge.rw_nt0165_01.row.prog w) (ktrTop dp un gd cn cs L a ccd cl outer) (call (.ref f) vs) Q E s := C _ _ _ _ _ _ _ _ _ _ _ _ _ _ _ _ _ _ _ _ B F X N T hk hd hu
theorem News.sub {h₀ h : Heap} {L : Addr} {news ks : List (Addr × Obj)} (N : News h₀ L h news) (hs : ∀ p ∈ ks, p ∈ news) : News h₀ L h ks := fun p hp => N p (hs p hp)
theorem sub_nil {α : Type} {L : List α} : ∀ p ∈ ([] : List α), p ∈ L := fun p hp => by cases hp
theorem sub_cons {α : Type} {a : α} {l L : List α} (h : a ∈ L) (r : ∀ p ∈ l, p ∈ L) : ∀ p ∈ a :: l, p ∈ L := fun p hp => by
  cases hp with
  | head => exact h
  | tail _ hp => exact r p hp
theorem sub_tail {α : Type} {x : α} {l L : List α} (r : ∀ p ∈ l, p ∈ L) : ∀ p ∈ l, p ∈ x :: L := fun p hp => .tail _ (r p hp)
end Mine
namespace Mine
theorem Stays.done {ks : List Addr} {h g h' : Heap} {L' : Addr} {m' : Str → Option Value} (x : Stays ks h g) (F : Fr g L' h' m') : Stays ks h h' := x.trans fun b o e _ => F.keep b o e
theorem News.at {h₀ h : Heap} {L a : Addr} {o : Obj} {news : List (Addr × Obj)} (N : News h₀ L h news) (hm : (a, o) ∈ news) : h.get? a = some o := (N _ hm).1
theorem fmod_in {a b : Int} (hb : 0 < b) : 0 ≤ a.fmod b ∧ a.fmod b < b := ⟨Int.fmod_nonneg_of_pos _ hb, Int.fmod_lt_of_pos _ hb⟩
end Mine
end
section
open PySem PySem.W PyProof.Rows PySem.Calls PySem.Spec
namespace Mine
/-- kept back from the walk -/
def Hold (P : Prop) : Prop := P
theorem hold_in {P : Prop} (h : Hold P) : P := h
theorem hold_out {P : Prop} (h : P) : Hold P := h

theorem hold_ref {M : Model} {A : Around} {E : Value → Shared → Prop} {s : Shared} {a : Addr} {vs : List Value} {Q : Value → Shared → Prop} (l : List Nat) (_ : l.contains a = true) (h : Hold (wpAny M A (call (.ref a) vs) Q E s)) : wpAny M A (call (.ref a) vs) Q E s := h
theorem frOver {h₀ h : Heap} {L : Addr} {m : Str → Option Value} (ps : List (Str × Value)) (F : Fr h₀ L h m) (h1 : ∀ p ∈ ps, m p.1 = some p.2) : Fr h₀ L h (kstB m ps) := by
  have e : kstB m ps = m := funext fun z => kstB_eq h1 fun _ => rfl
  rw [e]; exact F
theorem frOverX {h₀ h : Heap} {L : Addr} {m : Str → Option Value} {x : Str} {v : Value} (ps : List (Str × Value)) (F : Fr h₀ L h (fun y => if y = x then some v else m y)) (h1 : ∀ p ∈ ps, m p.1 = some p.2) :
    Fr h₀ L h (fun y => if y = x then some v else kstB m ps y) := by
  have e : kstB m ps = m := funext fun z => kstB_eq h1 fun _ => rfl
  rw [e]; exact F

section
variable {prog : Program} {w : World} {A : Around} {E : Value → Shared → Prop} {s : Shared} {env : Env} {h₀ : Heap} {x : Str} {body : List Stmt} {Q : Flow → Shared → Prop}

/-- the end of a turn: the iterator I stands as it did -/
def TurnE {σ : Type} (h₀ : Heap) (L : Addr) (Led : σ → List (Addr × Obj)) (ps : σ → List (Str × Value)) (R : σ → Prop) (I : Addr) (oi : Obj) (s₁ s₂ : Shared) : Prop :=
  ∃ c h' tk m', s₂ = { s₁ with heap := h', toks := tk } ∧ Fr h₀ L h' m' ∧ News h₀ L h' ((I, oi) :: Led c) ∧ (∀ p ∈ Led c, p.1 ≠ I) ∧ (∀ p ∈ ps c, m' p.1 = some p.2) ∧ R c
theorem TurnE.mk {σ : Type} {h₀ : Heap} {L : Addr} {Led : σ → List (Addr × Obj)} {ps : σ → List (Str × Value)} {R : σ → Prop} {I : Addr} {oi : Obj} {s₁ : Shared} {h' : Heap} {tk : Nat} {m' : Str → Option Value} {news' : List (Addr × Obj)}
    (c : σ) (F : Fr h₀ L h' m') (N : News h₀ L h' news') (hn : ∀ p ∈ (I, oi) :: Led c, p ∈ news') (ho : ∀ p ∈ Led c, p.1 ≠ I) (hp : ∀ p ∈ ps c, m' p.1 = some p.2) (hr : R c) :
    TurnE h₀ L Led ps R I oi s₁ { s₁ with heap := h', toks := tk } := ⟨c, h', tk, m', rfl, F, fun p q => N p (hn p q), ho, hp, hr⟩
def TurnP {σ : Type} (h₀ : Heap) (L : Addr) (Led : σ → List (Addr × Obj)) (ps : σ → List (Str × Value)) (R : σ → Prop) (I : Addr) (oi : Obj) (s₁ : Shared) (Q : Flow → Shared → Prop) (f : Flow) (s₂ : Shared) : Prop :=
  match f with
  | .ret v => Q (.ret v) s₂
  | .brk => Q .next s₂
  | _ => TurnE h₀ L Led ps R I oi s₁ s₂

theorem for_walks {σ : Type} (Led : σ → List (Addr × Obj)) (ps : σ → List (Str × Value)) (R : Nat → σ → Prop) (c₀ : σ) {I : Addr} {fp : List Addr} {n : Nat} {P : Nat → Value → Prop} {St : Nat → Heap → Prop} {m₀ : Str → Option Value}
    (W : Walks prog w A I fp [I] n P St) (hob : ∀ i h, St i h → ∃ o, h.get? I = some o) (hLf : env.locals ∉ fp) (hI0 : h₀.get? I = none) (hnI : ∀ p ∈ Led c₀, p.1 ≠ I) (hst : St 0 s.heap)
    (hfp : ∀ b ∈ fp, b ≠ I → h₀.get? b = none → ∃ o, ∀ c, (b, o) ∈ Led c)
    (F : Fr h₀ env.locals s.heap m₀) (N : News h₀ env.locals s.heap (Led c₀)) (hp₀ : ∀ p ∈ ps c₀, m₀ p.1 = some p.2) (hr : R 0 c₀)
    (turn : ∀ i v c (u : Str → Option Value) h tk oi, i < n → P i v → R i c → (∀ p ∈ Led c, p.1 ≠ I) → Fr h₀ env.locals h (fun y => if y = x then some v else kstB u (ps c) y) → News h₀ env.locals h ((I, oi) :: Led c) →
      wpAny (model prog w) A (execs body env) (TurnP h₀ env.locals Led ps (R (i + 1)) I oi { s with heap := h, toks := tk } Q) E { s with heap := h, toks := tk })
    (done : ∀ c (u : Str → Option Value) h tk, R n c → Fr h₀ env.locals h (kstB u (ps c)) → News h₀ env.locals h (Led c) → Q .next { s with heap := h, toks := tk }) :
    LoopAtV prog w A h₀ env x body Q E (.ref I) s := by
  let J : Nat → (Str → Option Value) → List (Addr × Obj) → Prop := fun i m nx => ∃ c, nx = Led c ∧ (∀ p ∈ ps c, m p.1 = some p.2) ∧ R i c
  have hwn : ∀ {l : List (Addr × Obj)}, (∀ p ∈ l, p.1 ≠ I) → ∀ p ∈ l, p.1 ∉ [I] := fun h p hp hq => h p hp (List.mem_singleton.mp hq)
  refine ⟨I, fp, [I], n, P, St, m₀, Led c₀, J, rfl, W, hLf, fun b hb => by rw [List.mem_singleton.mp hb]; exact hI0, hwn hnI, hst, F, N, ⟨c₀, rfl, hp₀, hr⟩, ?_, ?_⟩
  · rintro i v m₁ news₁ s₁ own ⟨hh', tk', rfl⟩ hin hP ⟨c, rfl, hp, hR⟩ hoff hown hown2 hmem hst' F₁ N₁
    obtain ⟨oi, hoi⟩ := hob _ _ hst'
    have hI : (I, oi) ∈ own := hmem _ (W.sub _ (.head _)) hI0 oi hoi
    have hne : ∀ p ∈ Led c, p.1 ≠ I := fun p hp e => hoff p hp (List.mem_singleton.mpr e)
    have N₂ : News h₀ env.locals hh' ((I, oi) :: Led c) := fun p hp => by
      rcases List.mem_cons.mp hp with rfl | hp
      · exact N₁ _ (List.mem_append.mpr (.inl hI))
      · exact N₁ p (List.mem_append.mpr (.inr hp))
    refine wpAny_mono (turn i v c m₁ hh' tk' oi hin hP hR hne (frOverX _ F₁ hp) N₂) (fun f s₂ p => ?_) fun _ _ e => e
    have fin : TurnE h₀ env.locals Led ps (R (i + 1)) I oi { s with heap := hh', toks := tk' } s₂ → LoopStepU h₀ env.locals [I] own (J (i + 1)) { s with heap := hh', toks := tk' } .next s₂ := by
      rintro ⟨c', h', tk, m', e, F', N', ho, hp', hr'⟩
      refine ⟨rfl, h', tk, m', Led c', e, F', fun p hp => ?_, hwn ho, c', rfl, hp', hr'⟩
      rcases List.mem_append.mp hp with hp | hp
      · have h1 := hown p hp
        have h2 := hown2 p hp
        by_cases hb : p.1 = I
        · have : p = (I, oi) := by
            obtain ⟨b, ob⟩ := p
            cases hb
            rw [hoi] at h2
            cases h2; rfl
          exact this ▸ N' _ (.head _)
        · cases h0 : h₀.get? p.1 with
          | some o => exact absurd ((N₁ p (List.mem_append.mpr (.inl hp))).2.2) (by rw [h0]; exact fun e => nomatch e)
          | none =>
            obtain ⟨o, ho'⟩ := hfp p.1 h1 hb h0
            have e1 : hh'.get? p.1 = some o := (N₂ (p.1, o) (.tail _ (ho' c))).1
            have : p = (p.1, o) := by
              obtain ⟨b, ob⟩ := p
              rw [h2] at e1; cases e1; rfl
            have z := N' _ (.tail _ (ho' c'))
            rw [← this] at z
            exact ⟨z.1, z.2.1, rfl⟩
      · exact N' p (.tail _ hp)
    cases f with
    | ret v => exact .ret p
    | brk => exact .brk p
    | next => exact .next (fin p)
    | cont => exact .cont (fin p)
  · rintro h' tk m' news' F' N' _ ⟨c, rfl, hp, hR⟩
    exact done c m' h' tk hR (frOver _ F' hp) N'

/-- over a range, any step -/
theorem for_range {σ : Type} (Led : σ → List (Addr × Obj)) (ps : σ → List (Str × Value)) (R : Nat → σ → Prop) (c₀ : σ) {r : Addr} {a b st : Int} {t u v : Tok} {n : Nat} {m₀ : Str → Option Value}
    (hh : A.handled = none) (hr : IsRange s.heap r a b st t u v) (hsmall : Builtin.Range.small a b st = true) (hn : Builtin.Range.rangeSize a b st = (n : Int))
    (F : Fr h₀ env.locals s.heap m₀) (N : News h₀ env.locals s.heap (Led c₀)) (hp₀ : ∀ p ∈ ps c₀, m₀ p.1 = some p.2) (hr0 : R 0 c₀)
    (turn : ∀ (i : Nat) t c (u : Str → Option Value) h tk I oi, i < n → R i c → (∀ p ∈ Led c, p.1 ≠ I) → Fr h₀ env.locals h (fun y => if y = x then some (.int (a + i * st) t) else kstB u (ps c) y) → News h₀ env.locals h ((I, oi) :: Led c) →
      wpAny (model prog w) A (execs body env) (TurnP h₀ env.locals Led ps (R (i + 1)) I oi { s with heap := h, toks := tk } Q) E { s with heap := h, toks := tk })
    (done : ∀ c (u : Str → Option Value) h tk, R n c → Fr h₀ env.locals h (kstB u (ps c)) → News h₀ env.locals h (Led c) → Q .next { s with heap := h, toks := tk }) :
    wpAny (model prog w) A (pyIter (.ref r)) (fun it s₂ => LoopAtV prog w A h₀ env x body Q E it s₂) E s := by
  refine wpAny_pyIter_range hr hsmall ?_
  have W := (Walks.range (prog := prog) (w := w) (A := A) hh s.heap.objs.size a st n)
  refine for_walks Led ps R c₀ W (fun i h q => ⟨_, q⟩) ?_ (next_is_new F) ?_ (by show IsRangeIter _ _ _ _ _; rw [hn]; simpa using Heap.get?_push_size _ rfl) ?_ (F.push _) (fun p hp => ⟨Heap.get?_push_of_some _ (N p hp).1, (N p hp).2⟩) hp₀ hr0 ?_ done
  · intro hm
    exact absurd F.ns.lt ((List.mem_singleton.mp hm) ▸ Nat.lt_irrefl _)
  · intro p hp hI
    exact absurd (Heap.lt_size (N p hp).1) (hI ▸ Nat.lt_irrefl _)
  · intro b hb hne _
    exact absurd (List.mem_singleton.mp hb) hne
  · rintro i v c u h tk oi hi ⟨t, rfl⟩ hR hne F₁ N₁
    exact turn i t c u h tk _ oi hi hR hne F₁ N₁

/-- over a list that stands as it is (of the base, or of the ledger) -/
theorem for_list {σ : Type} (Led : σ → List (Addr × Obj)) (ps : σ → List (Str × Value)) (R : Nat → σ → Prop) (c₀ : σ) {l : Addr} {vs : List Value} {m₀ : Str → Option Value}
    (hh : A.handled = none) (hl : s.heap.IsList l vs.toArray) (hlL : l ≠ env.locals) (hfp : h₀.get? l = none → ∃ o, ∀ c, (l, o) ∈ Led c)
    (F : Fr h₀ env.locals s.heap m₀) (N : News h₀ env.locals s.heap (Led c₀)) (hp₀ : ∀ p ∈ ps c₀, m₀ p.1 = some p.2) (hr0 : R 0 c₀)
    (turn : ∀ (i : Nat) v c (u : Str → Option Value) h tk I oi, vs[i]? = some v → R i c → (∀ p ∈ Led c, p.1 ≠ I) → Fr h₀ env.locals h (fun y => if y = x then some v else kstB u (ps c) y) → News h₀ env.locals h ((I, oi) :: Led c) →
      wpAny (model prog w) A (execs body env) (TurnP h₀ env.locals Led ps (R (i + 1)) I oi { s with heap := h, toks := tk } Q) E { s with heap := h, toks := tk })
    (done : ∀ c (u : Str → Option Value) h tk, R vs.length c → Fr h₀ env.locals h (kstB u (ps c)) → News h₀ env.locals h (Led c) → Q .next { s with heap := h, toks := tk }) :
    wpAny (model prog w) A (pyIter (.ref l)) (fun it s₂ => LoopAtV prog w A h₀ env x body Q E it s₂) E s := by
  obtain ⟨ol, hol, hol2⟩ := id hl
  have hlt : l < s.heap.objs.size := Heap.lt_size hol
  refine wpAny_pyIter_list hl ?_
  have W := Walks.list (prog := prog) (w := w) (A := A) hh s.heap.objs.size l (Nat.ne_of_lt hlt) vs.toArray
  have hlen : vs.toArray.size = vs.length := by simp
  rw [hlen] at W
  refine for_walks Led ps R c₀ W (fun i h q => let ⟨⟨o, ho, _⟩, _⟩ := q; ⟨o, ho⟩) ?_ (next_is_new F) ?_ ⟨⟨_, Heap.get?_push_size _ rfl, rfl, rfl⟩, hl.at fun o e => Heap.get?_push_of_some _ e⟩ ?_ (F.push _) (fun p hp => ⟨Heap.get?_push_of_some _ (N p hp).1, (N p hp).2⟩) hp₀ hr0 ?_ done
  · intro hm
    rcases List.mem_cons.mp hm with e | hm
    · exact absurd F.ns.lt (e ▸ Nat.lt_irrefl _)
    · exact hlL (List.mem_singleton.mp hm).symm
  · intro p hp hI
    exact absurd (Heap.lt_size (N p hp).1) (hI ▸ Nat.lt_irrefl _)
  · intro b hb hne h0
    rcases List.mem_cons.mp hb with e | hb
    · exact absurd e hne
    · rw [List.mem_singleton.mp hb] at h0 ⊢
      exact hfp h0
  · rintro i v c u h tk oi hi hv hR hne F₁ N₁
    exact turn i v c u h tk _ oi (by simpa using hv) hR hne F₁ N₁

def WhileE {σ : Type} (h₀ : Heap) (L : Addr) (Led : σ → List (Addr × Obj)) (ps : σ → List (Str × Value)) (R : σ → Prop) (μ : σ → Nat) (c : σ) (s₁ s₂ : Shared) : Prop :=
  ∃ c' h' tk m', s₂ = { s₁ with heap := h', toks := tk } ∧ Fr h₀ L h' m' ∧ News h₀ L h' (Led c') ∧ (∀ p ∈ ps c', m' p.1 = some p.2) ∧ R c' ∧ μ c' < μ c
theorem WhileE.mk {σ : Type} {h₀ : Heap} {L : Addr} {Led : σ → List (Addr × Obj)} {ps : σ → List (Str × Value)} {R : σ → Prop} {μ : σ → Nat} {c : σ} {s₁ : Shared} {h' : Heap} {tk : Nat} {m' : Str → Option Value} {news' : List (Addr × Obj)}
    (c' : σ) (F : Fr h₀ L h' m') (N : News h₀ L h' news') (hn : ∀ p ∈ Led c', p ∈ news') (hp : ∀ p ∈ ps c', m' p.1 = some p.2) (hr : R c') (hm : μ c' < μ c) :
    WhileE h₀ L Led ps R μ c s₁ { s₁ with heap := h', toks := tk } := ⟨c', h', tk, m', rfl, F, fun p q => N p (hn p q), hp, hr, hm⟩
def WhileP {σ : Type} (h₀ : Heap) (L : Addr) (Led : σ → List (Addr × Obj)) (ps : σ → List (Str × Value)) (R : σ → Prop) (μ : σ → Nat) (c : σ) (s₁ : Shared) (Q : Flow → Shared → Prop) (f : Flow) (s₂ : Shared) : Prop :=
  match f with
  | .ret v => Q (.ret v) s₂
  | .brk => Q .next s₂
  | _ => WhileE h₀ L Led ps R μ c s₁ s₂
theorem while_inv {σ : Type} {L : Addr} {test : Expr} {pos : Pos} {m₀ : Str → Option Value} (Led : σ → List (Addr × Obj)) (ps : σ → List (Str × Value)) (R : σ → Prop) (μ : σ → Nat) (c₀ : σ)
    (F : Fr h₀ L s.heap m₀) (N : News h₀ L s.heap (Led c₀)) (hp₀ : ∀ p ∈ ps c₀, m₀ p.1 = some p.2) (hr0 : R c₀)
    (turn : ∀ c (u : Str → Option Value) h tk, R c → Fr h₀ L h (kstB u (ps c)) → News h₀ L h (Led c) →
      wpAny (model prog w) A (isTrue test env (eval test env)) (fun b s₂ => if b = true then wpAny (model prog w) A (execs body env) (WhileP h₀ L Led ps R μ c { s with heap := h, toks := tk } Q) E s₂ else Q .next s₂) E { s with heap := h, toks := tk })
    (hE : PassesOwn (model prog w) A env E := by passes_own) :
    wpAny (model prog w) A (exec (.While test body [] pos) env) Q E s := by
  refine While_inv2 (fun n m nx => ∃ c : σ, nx = Led c ∧ μ c = n ∧ (∀ p ∈ ps c, m p.1 = some p.2) ∧ R c) F N ⟨c₀, rfl, rfl, hp₀, hr0⟩ ?_ hE
  rintro n m₁ nx h tk F₁ N₁ ⟨c, rfl, rfl, h1, h2⟩
  refine wpAny_mono (turn c m₁ h tk h2 (frOver _ F₁ h1) N₁) (fun b s₂ p => ?_) fun _ _ x => x
  cases b with
  | false => simpa using p
  | true =>
    simp only [if_true] at p ⊢
    refine wpAny_mono p (fun f s₃ q => ?_) fun _ _ x => x
    cases f with
    | ret v => exact q
    | brk => exact q
    | next =>
      obtain ⟨c', h', tk', m', rfl, F', N', hp9, hr9, hm9⟩ := q
      exact ⟨h', tk', m', Led c', μ c', rfl, F', N', hm9, c', rfl, rfl, hp9, hr9⟩
    | cont =>
      obtain ⟨c', h', tk', m', rfl, F', N', hp9, hr9, hm9⟩ := q
      exact ⟨h', tk', m', Led c', μ c', rfl, F', N', hm9, c', rfl, rfl, hp9, hr9⟩
end
end Mine
end
section
open PySem PySem.W PyProof.Rows PySem.Calls PySem.Spec
namespace Mine
def Grown (s s' : Shared) : Prop := s.toks ≤ s'.toks ∧ s.heap.objs.size ≤ s'.heap.objs.size
theorem Grown.refl (s : Shared) : Grown s s := ⟨Nat.le_refl _, Nat.le_refl _⟩
theorem Grown.trans {s s' s'' : Shared} (a : Grown s s') (b : Grown s' s'') : Grown s s'' := ⟨Nat.le_trans a.1 b.1, Nat.le_trans a.2 b.2⟩
theorem grown_update (s : Shared) (a : Addr) (f : Obj → Obj) : Grown s { s with heap := s.heap.update a f } := ⟨Nat.le_refl _, Nat.le_of_eq (Heap.SameBut.update (h := s.heap) (a := a) (f := f)).1.symm⟩
theorem grown_push (s : Shared) (o : Obj) : Grown s { s with heap := s.heap.push o } := ⟨Nat.le_refl _, by show s.heap.objs.size ≤ (s.heap.push o).objs.size; rw [Heap.size_push]; exact Nat.le_succ _⟩
theorem grown_gen (s : Shared) (g : Nat) (x : GenState) : Grown s (s.setGen g x) := ⟨Nat.le_refl _, Nat.le_refl _⟩
theorem runs_grow {M : Model} {Γ : PySem.Ctx} {p : Pos} {t : Sem Fin} {fs : List Frame} {s : Shared} {e : End} {s' : Shared} (h : Runs M Γ p t fs s e s') : Grown s s' := by
  induction h with
  | done => exact .refl _
  | raise => exact .refl _
  | again _ _ ih => exact ih
  | rule _ ih => exact ih
  | «at» _ ih => exact ih
  | load _ _ ih => exact ih
  | update _ _ ih => exact (grown_update _ _ _).trans ih
  | loadIfAlive _ ih => exact ih
  | point _ ih => exact ih
  | alloc _ ih => exact (grown_push _ _).trans ih
  | fresh _ ih => exact ⟨Nat.le_trans (Nat.le_succ _) ih.1, ih.2⟩
  | ask _ ih => exact ih
  | choose _ _ ih => exact ih
  | os _ ih => exact ih
  | handled _ ih => exact ih
  | genState _ _ ih => exact ih
  | stack _ ih => exact ih
  | thread _ ih => exact ih
  | newGen _ ih => exact ih
  | call _ _ i1 i2 => exact i1.trans i2
  | callSusp _ ih => exact ih
  | yield => exact .refl _
  | resumeFresh _ _ _ _ i1 i2 => exact i1.trans i2
  | resumeSuspended _ _ _ _ i1 i2 => exact i1.trans i2
  | resumeJustStarted _ _ _ ih => exact ih
  | resumeThrowFresh _ _ ih => exact ih
  | resumeRunning _ _ ih => exact ih
  | resumeFinished _ _ ih => exact ih
  | segRet _ _ i1 i2 => exact i1.trans i2
  | segGen _ _ i1 i2 => exact i1.trans i2
  | segSuspOut _ _ ih => exact ih
  | segSuspGen _ _ _ _ i1 i2 => exact i1.trans i2
theorem wakes_grow {M : Model} {Γ : PySem.Ctx} {p : Pos} {g : Nat} {r : Resume} {s : Shared} {res : GenResult} {s' : Shared} (h : Wakes M Γ p g r s res s') : Grown s s' := by
  unfold Wakes at h
  split at h
  · cases h
  · split at h
    · obtain ⟨e, s₁, h1, _, _, rfl⟩ := h; have z := runs_grow h1; exact ⟨z.1, z.2⟩
    · obtain ⟨_, rfl⟩ := h; exact .refl _
    · obtain ⟨_, rfl⟩ := h; exact .refl _
  · obtain ⟨e, s₁, h1, _, _, rfl⟩ := h; have z := runs_grow h1; exact ⟨z.1, z.2⟩
  · obtain ⟨_, rfl⟩ := h; exact .refl _
  · obtain ⟨_, rfl⟩ := h; exact .refl _
theorem wp_grow {α : Type} {M : Model} {Γ : PySem.Ctx} : ∀ (t : Sem α) (Q : α → Pos → Shared → Prop) (E : Value → Pos → Shared → Prop) (p : Pos) (s : Shared), Sem.wp M Γ t Q E p s →
    ∀ s₀, Grown s₀ s → Sem.wp M Γ t (fun a p' s' => Q a p' s' ∧ Grown s₀ s') (fun e p' s' => E e p' s' ∧ Grown s₀ s') p s
  | .pure _, _, _, _, _, h, _, g => ⟨h, g⟩
  | .raise _, _, _, _, _, h, _, g => ⟨h, g⟩
  | .unsupported _, _, _, _, _, h, _, _ => h
  | .finish _, _, _, _, _, h, _, _ => h
  | .rule _ k, Q, E, p, s, h, s₀, g => wp_grow (k ()) Q E p s h s₀ g
  | .at p' k, Q, E, _, s, h, s₀, g => wp_grow (k ()) Q E p' s h s₀ g
  | .load a _ k, Q, E, p, s, h, s₀, g => let ⟨o, e, h⟩ := h; ⟨o, e, wp_grow (k o) Q E p s h s₀ g⟩
  | .update a _ f k, Q, E, p, s, h, s₀, g => ⟨h.1, wp_grow (k ()) Q E p _ h.2 s₀ (g.trans (grown_update s a f))⟩
  | .loadIfAlive a k, Q, E, p, s, h, s₀, g => wp_grow (k (s.heap.get? a)) Q E p s h s₀ g
  | .point _ k, Q, E, p, s, h, s₀, g => wp_grow (k ()) Q E p s h s₀ g
  | .register _ _, _, _, _, _, h, _, _ => h
  | .alloc o k, Q, E, p, s, h, s₀, g => wp_grow (k s.heap.objs.size) Q E p _ h s₀ (g.trans (grown_push s o))
  | .fresh k, Q, E, p, s, h, s₀, g => wp_grow (k s.toks) Q E p _ h s₀ ⟨Nat.le_trans g.1 (Nat.le_succ _), g.2⟩
  | .ask k, Q, E, p, s, h, s₀, g => wp_grow (k ⟨M.prog, M.w.params⟩) Q E p s h s₀ g
  | .choose src n k, Q, E, p, s, h, s₀, g => ⟨h.1, wp_grow (k (M.w.draws src (s.drawn.get src) % n)) Q E p { s with drawn := s.drawn.bump src } h.2 s₀ g⟩
  | .os q _ k, Q, E, p, s, h, s₀, g => wp_grow (k (Os.step s.os q).2) Q E p { s with os := (Os.step s.os q).1 } h s₀ g
  | .call c hd _ _ k, Q, E, p, s, h, s₀, g => let ⟨r, s', h1, h2⟩ := h; ⟨r, s', h1, wp_grow (k r) Q E p s' h2 s₀ (g.trans (runs_grow h1))⟩
  | .handled own k, Q, E, p, s, h, s₀, g => wp_grow (k (if own then Γ.own else Γ.handled)) Q E p s h s₀ g
  | .genState gg k, Q, E, p, s, h, s₀, g => let ⟨st, e, h⟩ := h; ⟨st, e, wp_grow (k st.seen) Q E p s h s₀ g⟩
  | .newGen c k, Q, E, p, s, h, s₀, g => wp_grow (k s.gens.size) Q E p { s with gens := s.gens.push (.fresh c) } h s₀ g
  | .resume gg r _ k, Q, E, p, s, h, s₀, g => let ⟨res, s', h1, h2⟩ := h; ⟨res, s', h1, wp_grow (k res) Q E p s' h2 s₀ (g.trans (wakes_grow h1))⟩
  | .yield .., _, _, _, _, h, _, _ => h
  | .stack k, Q, E, p, s, h, s₀, g => wp_grow (k ((Γ.code, p) :: Γ.below)) Q E p s h s₀ g
  | .fork .., _, _, _, _, h, _, _ => h
  | .thread k, Q, E, p, s, h, s₀, g => wp_grow (k 0) Q E p s h s₀ g
  | .await .., _, _, _, _, h, _, _ => h
theorem wpAny_grow {α : Type} {M : Model} {A : Around} {t : Sem α} {Q : α → Shared → Prop} {E : Value → Shared → Prop} {s : Shared} (h : wpAny M A t (fun a s' => Grown s s' → Q a s') E s) : wpAny M A t Q E s := fun Γ p hΓ =>
  Sem.wp_mono M Γ t (fun _ _ _ x => x.1 x.2) (fun _ _ _ x => x.1) p s (wp_grow t _ _ p s (h Γ p hΓ) s (.refl s))
/-- a statement, then the rest from what it leaves -/
def MidP {σ : Type} (h₀ : Heap) (L : Addr) (s : Shared) (ps : σ → List (Str × Value)) (Led : σ → List (Addr × Obj)) (R : σ → Prop) (f : Flow) (s' : Shared) : Prop :=
  f = .next ∧ ∃ c h tk m, s' = { s with heap := h, toks := tk } ∧ R c ∧ Fr h₀ L h m ∧ News h₀ L h (Led c) ∧ ∀ p ∈ ps c, m p.1 = some p.2
theorem MidP.mk {σ : Type} {h₀ : Heap} {L : Addr} {s : Shared} {ps : σ → List (Str × Value)} {Led : σ → List (Addr × Obj)} {R : σ → Prop} {h : Heap} {tk : Nat} {m : Str → Option Value} {news' : List (Addr × Obj)} (c : σ)
    (F : Fr h₀ L h m) (N : News h₀ L h news') (hn : ∀ p ∈ Led c, p ∈ news') (hp : ∀ p ∈ ps c, m p.1 = some p.2) (hr : R c) : MidP h₀ L s ps Led R .next { s with heap := h, toks := tk } :=
  ⟨rfl, c, h, tk, m, rfl, hr, F, fun p q => N p (hn p q), hp⟩
section
variable {M : Model} {A : Around} {E : Value → Shared → Prop} {s : Shared} {env : Env} {h₀ : Heap} {L : Addr} {Q : Flow → Shared → Prop}
theorem execs_mid {σ : Type} {st : Stmt} {rest : List Stmt} (ps : σ → List (Str × Value)) (Led : σ → List (Addr × Obj)) (R : σ → Prop) (h1 : wpAny M A (exec st env) (MidP h₀ L s ps Led R) E s)
    (h2 : ∀ c (u : Str → Option Value) h tk, R c → s.toks ≤ tk → Fr h₀ L h (kstB u (ps c)) → News h₀ L h (Led c) → wpAny M A (execs rest env) Q E { s with heap := h, toks := tk }) : wpAny M A (execs (st :: rest) env) Q E s := by
  refine wpAny_execs_cons (wpAny_grow (wpAny_mono h1 (fun f s' z hg => ?_) fun _ _ e => e))
  obtain ⟨rfl, c, h, tk, m, rfl, hr, F, N, hp⟩ := z
  exact h2 c m h tk hr hg.1 (frOver _ F hp) N
end
end Mine
end
section
open PySem PySem.W PyProof.Rows PySem.Calls PySem.Spec PyProof.V
namespace Mine
theorem none_stays {ks : List Addr} {h g : Heap} {a : Addr} (x : Stays ks h g) (n : g.get? a = none) (hk : a ∉ ks) : h.get? a = none := by
  cases q : h.get? a with
  | none => rfl
  | some o => rw [x a o q hk] at n; cases n
/-- a cell: a pair's address, its dict's, the value it holds, the two keys' marks -/
structure Cell where
  a : Addr
  d : Addr
  v : Value
  t1 : Tok
  t2 : Tok
def hdV : List Cell → Value → Value
  | [], t => t
  | c :: _, _ => .ref c.a
abbrev pairD (w : World) (v nx : Value) (t1 t2 : Tok) : Obj := dictOf [⟨PyData.keyHash w.params "car", .str "car" t1, v⟩, ⟨PyData.keyHash w.params "cdr", .str "cdr" t2, nx⟩] 2
def cellsLed (w : World) : List Cell → Value → List (Addr × Obj)
  | [], _ => []
  | c :: r, t => (c.a, instObj 148 c.d) :: (c.d, pairD w c.v (hdV r t) c.t1 c.t2) :: cellsLed w r t
theorem lt_all {d : Addr} {l : List (Addr × Obj)} (h : AllLt d l) : ∀ p ∈ l, p.1 < d := kst_ltOf h
theorem getD_drop {ns : List Int} {k : Nat} (h : k < ns.length) : ns.getD k 0 :: ns.drop (k + 1) = ns.drop k := by
  rw [List.getD_eq_getElem?_getD, List.getElem?_eq_getElem h]; simp
section
variable {w : World} {I : Addr} {oi : Obj} {x d L : Addr} {v tl : Value} {t1 t2 : Tok} {cells : List Cell} {h₀ h' : Heap} {m' : Str → Option Value} {s₁ : Shared} {tk : Nat}
theorem turn_list_of {ax : Addr} {ns : List Int} {i : Nat} {k : Int} {t : Tok}
    (N : News h₀ L h' ((x, instObj 148 d) :: (d, pairD w (.int (ns.getD k.toNat 0) t) (hdV cells tl) t1 t2) :: (I, oi) :: cellsLed w cells tl)) (F : Fr h₀ L h' m') (l0 : ∀ p ∈ (I, oi) :: cellsLed w cells tl, p.1 < d) (l2 : d < x)
    (hr : ((cellsLed w cells tl).map (·.1)).Nodup ∧ IntsAre (cells.map (·.v)) (ns.drop (ns.length - i))) (hne : ∀ p ∈ cellsLed w cells tl, p.1 ≠ I) (hi : i < ns.length) (hk : k = (ns.length : Int) - 1 - i)
    (h1 : m' "found" = some (.ref x)) (h2 : m' "things" = some (.ref ax)) :
    TurnE h₀ L (fun cells => cellsLed w cells tl) (fun cells => [("found", hdV cells tl), ("things", .ref ax)]) (fun cells => ((cellsLed w cells tl).map (·.1)).Nodup ∧ IntsAre (cells.map (·.v)) (ns.drop (ns.length - (i + 1)))) I oi s₁ { s₁ with heap := h', toks := tk } := by
  have l1 : I < d ∧ AllLt d (cellsLed w cells tl) := allLt_of l0
  refine TurnE.mk (⟨x, d, .int (ns.getD k.toNat 0) t, t1, t2⟩ :: cells) F N (fun p hp => ?_) (fun p hp => ?_) ?_ ⟨?_, ?_⟩
  · simp only [cellsLed, List.mem_cons] at hp ⊢
    rcases hp with h | h | h | h <;> simp [h]
  · simp only [cellsLed, List.mem_cons] at hp
    rcases hp with h | h | h
    · subst h; exact Nat.ne_of_gt (Nat.lt_trans l1.1 l2)
    · subst h; exact Nat.ne_of_gt l1.1
    · exact hne p h
  · intro p hp
    simp only [List.mem_cons, List.not_mem_nil, or_false] at hp
    rcases hp with h | h <;> subst h
    · exact h1
    · exact h2
  · have q := lt_all l1.2
    simp only [cellsLed, List.map_cons, List.nodup_cons, List.mem_cons, not_or]
    refine ⟨⟨Nat.ne_of_gt l2, fun hm => ?_⟩, fun hm => ?_, hr.1⟩
    · obtain ⟨p, hp, e⟩ := List.mem_map.mp hm
      exact absurd (q p hp) (by rw [e]; exact Nat.not_lt.mpr (Nat.le_of_lt l2))
    · obtain ⟨p, hp, e⟩ := List.mem_map.mp hm
      exact absurd (q p hp) (by rw [e]; exact Nat.lt_irrefl _)
  · have e1 : k.toNat = ns.length - (i + 1) := by omega
    have e2 : ns.drop (ns.length - (i + 1)) = ns.getD k.toNat 0 :: ns.drop (ns.length - i) := by
      rw [e1, ← getD_drop (by omega)]
      congr 2; omega
    rw [e2]
    exact .cons _ _ hr.2
end
end Mine
end
section
open PySem PySem.W PyProof.Rows PySem.Calls PySem.Spec PyProof.V
namespace Mine
theorem InstAt.up {h₀ h : Heap} {L x C : Addr} {m : Str → Option Value} {ox : Obj} {od : Option Obj} (F : Fr h₀ L h m) (I : InstAt h₀ x ox C od) : InstAt h x ox C od :=
  ⟨F.keep _ _ I.at_, I.cls, I.no, by
    have z := I.dict
    revert z
    cases ox.dict <;> cases od <;> intro z <;> first | exact z | exact F.keep _ _ z⟩
theorem two_objs {h : Heap} {a b : Addr} {o1 o2 : Obj} {x y : String} (h1 : h.get? a = some o1) (h2 : h.get? b = some o2) (c1 : o1.cls = .type x) (c2 : o2.cls = .type y) (hxy : x ≠ y) : a ≠ b := fun e => by
  rw [e, h2] at h1
  cases h1
  rw [c2] at c1
  exact hxy (Value.type.inj c1).symm
theorem call_pure {g h h' : Heap} {L : Addr} {m : Str → Option Value} {news : List (Addr × Obj)} (F : Fr g L h m) (N : News g L h news) (S : Stays [] h h') : Fr g L h' m ∧ News g L h' news :=
  ⟨Fr.stays F S (by simp) (by simp), News.stays N S (by simp)⟩
theorem News.add {g h h' : Heap} {L a : Addr} {o : Obj} {m : Str → Option Value} {news : List (Addr × Obj)} (F : Fr g L h m) (N : News g L h' news) (e : h'.get? a = some o) (n : h.get? a = none) : News g L h' ((a, o) :: news) := fun p hp => by
  rcases List.mem_cons.mp hp with rfl | hp
  · refine ⟨e, fun q => ?_, ?_⟩
    · obtain ⟨oL, _, _, hL, _⟩ := F.ns
      rw [← q, n] at hL; cases hL
    · cases q : g.get? a with
      | none => rfl
      | some o' => have z := F.keep _ _ q; rw [n] at z; cases z
  · exact N p hp
/-- a value whose identity is plain: an object that is no tuple, or an int -/
def Known (h : Heap) (u : Value) : Prop := (∃ a o, u = .ref a ∧ h.get? a = some o ∧ o.cls ≠ .type "tuple") ∨ ∃ i t, u = .int i t
theorem Known.up {h₀ h : Heap} {L : Addr} {m : Str → Option Value} {u : Value} (F : Fr h₀ L h m) (k : Known h₀ u) : Known h u := k.imp (fun ⟨a, o, e, q, n⟩ => ⟨a, o, e, F.keep _ _ q, n⟩) id
theorem is_known {M : Model} {A : Around} {E : Value → Shared → Prop} {s : Shared} {Q : Value → Shared → Prop} {u : Value} {b : Addr} {ob : Obj} (hu : Known s.heap u) (hb : s.heap.get? b = some ob) (h : Q (.bool (decide (u = .ref b))) s) :
    wpAny M A (compareOp .Is u (.ref b)) Q E s := by
  rcases hu with ⟨a, o, rfl, ho, hn⟩ | ⟨i, t, rfl⟩
  · by_cases e : a = b
    · subst e
      rw [decide_eq_true (rfl : Value.ref a = Value.ref a)] at h
      exact wpAny_is_ref_self h
    · rw [decide_eq_false (fun q => e (Value.ref.inj q))] at h
      exact wpAny_is_ref_other e ho hb hn h
  · have e : (decide (Value.int i t = Value.ref b)) = false := decide_eq_false fun q => by cases q
    rw [e] at h
    show wpAny M A (do return .bool (← isSame (.int i t) (.ref b))) Q E s
    exact wpAny_bind (wpAny_pure (wpAny_pure h))
theorem is_int_ref {M : Model} {A : Around} {E : Value → Shared → Prop} {s : Shared} {Q : Value → Shared → Prop} {i : Int} {t : Tok} {b : Addr} (h : Q (.bool false) s) : wpAny M A (compareOp .Is (.int i t) (.ref b)) Q E s := by
  show wpAny M A (do return .bool (← isSame (.int i t) (.ref b))) Q E s
  exact wpAny_bind (wpAny_pure (wpAny_pure h))
theorem isnot_int_ref {M : Model} {A : Around} {E : Value → Shared → Prop} {s : Shared} {Q : Value → Shared → Prop} {i : Int} {t : Tok} {b : Addr} (h : Q (.bool true) s) : wpAny M A (compareOp .IsNot (.int i t) (.ref b)) Q E s := by
  show wpAny M A (do return .bool (!(← isSame (.int i t) (.ref b)))) Q E s
  exact wpAny_bind (wpAny_pure (wpAny_pure h))
end Mine
end
section
open PySem PySem.W PyProof.Rows PySem.Calls PySem.Spec PyProof.V
namespace Mine
section
variable {prog : Program} {w : World} {A A₀ : Around} {E : Value → Shared → Prop} {s : Shared} {K : Frag} {L : Addr} {h₀ base : Heap} {m mg mb : Str → Option Value} {mods : List (Addr × Obj)} {p : Program} {loose : List Str} {mean : ExcName → Option Value} {Q : Value → Shared → Prop}
theorem enterHC {env : Env} {outer : List Env} {name qual : Str} {params : Arguments} {body : List Stmt} {scope : Scope} {dV kV doc pm cdv ct oc : Value} {an od : Option Addr} {osl : Array (Option Value)} {f : Addr} {args : Args} {binds : List (Str × Value)}
    (B : Below A₀ base outer h₀) (F : Fr h₀ L s.heap m) (X₀ : K.In h₀) (N : News h₀ L s.heap mods) (T : Top p loose mean mg mb h₀) (hA : A.frames = some (env :: outer)) (hf : env.frame = some L) (hke : env.scope.kind = .function)
    (ho : K.lookup f = some ⟨oc, od, .func (fnOf name qual params body scope dV kV doc pm an cdv ct), osl⟩) (hcd : codeIn K cdv qual = true) (hroom : A.depth < recursionLimit)
    (hbind : BindsTo s (fnOf name qual params body scope dV kV doc pm an cdv ct) args binds) (hkind : (binds.all fun y => scope.names.lookup y.1 == some .local || scope.names.lookup y.1 == some .cell) = true)
    (hnd : ((cellsFrom 0 scope.names []).map (·.1)).Nodup)
    (h : ∀ g L' h₁ tk cells, Stays (mods.map (·.1)) s.heap g → (∀ b o, g.get? b = some o → s.heap.get? b = some o) → Fr g L' h₁ (bindL (envOfC qual scope L' f cdv).kindOf binds fun _ => none) → News g L' h₁ (cells ++ mods) →
      CellsAre (bindC (envOfC qual scope L' f cdv).kindOf binds fun _ => none) (cellsFrom (L' + 1) scope.names []) cells → Below A base (env :: outer) g → K.In g → Top p loose mean mg mb g → (∀ p ∈ mods, p.1 < L') → s.toks ≤ tk →
      wpAny (model prog w) (A.deeper (envOfC qual scope L' f cdv)) (execs body (envOfC qual scope L' f cdv))
        (fun fl s' => Q (match fl with | .ret v => v | _ => .none) s') (fun _ _ => False)
        { s with heap := h₁, toks := tk })
    (hco : scope.isCoroutine = false) (hgen : scope.isGenerator = false) (hk : scope.kind = .function) :
    codeAny (model prog w) A (.call (.ref f) args) (fun r s' => match r with | .ok (.ret v) => Q v s' | .ok _ => False | .error e => E e s') s := by
  obtain ⟨FG, BG, st, _⟩ := groundX (R := fun _ _ => True) B F N hA hf hke
  have KG : K.In (hideAll s.heap (mods.map (·.1))) := X₀.keeps st
  have TG : Top p loose mean mg mb (hideAll s.heap (mods.map (·.1))) := T.keeps st
  refine codeAny_call_function hroom ((X₀.keeps F.keep) _ _ ho) rfl hco hgen rfl (codeRec_of (X₀.keeps F.keep) hcd) (hbind _ _ _ _ ?_)
  refine wpAny_grow (wpAny_newFunctionEnv_cells hk (kindsX hkind _) fun env' he s' x hgr => ?_)
  subst he
  refine ⟨(T.nolimit.keeps F.keep).keeps x.toInCall.keep, codeAny_func ?_⟩
  obtain ⟨h₁, tk, rfl, _⟩ := x.done
  have htk : s.toks ≤ tk := hgr.1
  have hk₁ := x.toInCall.keep
  obtain ⟨cells, NC, Y⟩ := Cl.news (h₀ := s.heap) (Nat.le_refl _) fun n c hm => ⟨x.cell n c (lookup_of_mem_nodup (cellsFrom_names scope.names 0 (s.heap.objs.size + 1) [] [] rfl ▸ hnd) hm), x.above n c hm⟩
  refine wpAny_mono (h (hideAll s.heap (mods.map (·.1))) s.heap.objs.size h₁ tk cells (fun b o e n => hideAll_get _ e n) (fun b o e => of_hideAll _ e) ⟨x.toInCall.ns, fun b o e => hk₁ b o (of_hideAll _ e), Nat.le_of_eq (hideAll_size _ _)⟩ (fun p hp => ?_) Y BG KG TG (fun p hp => Heap.lt_size (N p hp).1) htk) (fun fl s' hl => hl) fun _ _ y => y.elim
  rcases List.mem_append.mp hp with hp | hp
  · refine ⟨(NC p hp).1, (NC p hp).2.1, ?_⟩
    cases q : (hideAll s.heap (mods.map (·.1))).get? p.1 with
    | none => rfl
    | some o => have := of_hideAll _ q; rw [(NC p hp).2.2] at this; cases this
  · exact ⟨hk₁ _ _ (N p hp).1, Nat.ne_of_lt (Heap.lt_size (N p hp).1), hideAll_none _ (List.mem_map_of_mem hp)⟩
end
end Mine
end
section
open PySem PySem.W PyProof.Rows PySem.Calls PySem.Spec
namespace Mine
theorem draw_ok {w : World} {s : Shared} {Q : Value → Shared → Prop} (dk ia : Addr) (vs : List Value) (ns : List Int) (k : Int) (t : Tok) (n : Nat) (many : Int) (tm : Tok)
   (hia : s.heap.IsList ia vs.toArray) (hne : ia ≠ dk) (hi : IntsAre vs ns) (hns : ns.length ≤ 63) (hk0 : 0 ≤ k) (hk1 : k < 1000) (hm0 : 0 < many) (hm1 : many ≤ 90)
   (ret : ∀ v tv t' n' h' tk', 0 ≤ v → v < many → 0 < tk' → Stays [dk] s.heap h' → h'.get? dk = some (listO [.ref ia, .int (k + 1) t'] n') → Q (.int v tv) { s with heap := h', toks := tk' }) :
   CallOk 1 40 w 399 [.ref dk, .int many tm] [(dk, listO [.ref ia, .int k t] n)] s Q := by
  intro p loose mean mg mb dp un gd cn cs a ccd cl outer A₀ base h₀ L m E B F X N T hk hdp hun
  revert X; k_fill; intro X
  refine wpAny_call (enterH (K := Mine.K w.params) (binds := [("deck", .ref dk), ("many", .int many tm)]) B F X N T rfl rfl hk (by k_is) (by k_is) (by ktr_room) (BindsTo.of_eq rfl) (locs rfl) ?_ rfl rfl rfl (by decide))
  intro g L' h' hg1 hg2 F' N' B' X' T' l1
  have hia' : g.IsList ia vs.toArray := by
    obtain ⟨o, ho, r⟩ := hia
    exact ⟨o, hg1 _ _ ho (by simpa using hne), r⟩
  clear F N B X T hia hg2
  try dsimp only
  try k_fold
  k_steps
  all_goals dsimp only
  all_goals exact ret _ _ _ _ _ _ (fmod_in hm0).1 (fmod_in hm0).2 (Nat.succ_pos _) (Stays.done hg1 (by assumption)) (News.at (by assumption) (List.Mem.head _))

/-- a draw in a caller's walk: the deck's object is turned in the ledger -/
theorem draw_use {w : World} {p : Program} {loose : List Str} {mean : ExcName → Option Value} {mg mb : Str → Option Value} {dp un : Nat} {gd : Option (List Code)} {cn : Str} {cs : Scope} {a : Addr} {ccd : Value} {cl : List (Str × Addr)} {outer : List Env} {A₀ : Around} {base h₀ : Heap} {L : Addr} {m : Str → Option Value} {s : Shared} {Q E : Value → Shared → Prop}
   {dk ia : Addr} {vs : List Value} {ns : List Int} {k : Int} {t : Tok} {n : Nat} {many : Int} {tm : Tok} {news : List (Addr × Obj)} {nf : Obj → List (Addr × Obj)}
   (B : Below A₀ base outer h₀) (F : Fr h₀ L s.heap m) (X : (Mine.K w.params).In h₀) (N : News h₀ L s.heap news) (T : Top p loose mean mg mb h₀) (hk : cs.kind = .function) (hdp : dp + 1 < recursionLimit) (hun : un + 40 < cLine)
   (U : UpdF dk (listO [.ref ia, .int k t] n) news nf) (hia : s.heap.IsList ia vs.toArray) (hne : ia ≠ dk) (hi : IntsAre vs ns) (hns : ns.length ≤ 63) (hk0 : 0 ≤ k) (hk1 : k < 1000) (hm0 : 0 < many) (hm1 : many ≤ 90)
   (ret : ∀ v tv t' n' h' tk', 0 ≤ v → v < many → s.toks ≤ tk' → Fr h₀ L h' m → News h₀ L h' (nf (listO [.ref ia, .int (k + 1) t'] n')) → Q (.int v tv) { s with heap := h', toks := tk' }) :
   wpAny (model PySem.Challenge.rw_nt0165_01.row.prog w) (ktrTop dp un gd cn cs L a ccd cl outer) (call (.ref 399) [.ref dk, .int many tm]) Q E s := by
  obtain ⟨pre, post, hn, hf, h1, h2⟩ := U.split
  refine wpAny_grow (CallOk.use (D := 1) (U := 40) (ks := [(dk, listO [.ref ia, .int k t] n)]) (draw_ok dk ia vs ns k t n many tm hia hne hi hns hk0 hk1 hm0 hm1 ?_) B F X (News.sub N (by rw [hn]; simp)) T hk hdp hun)
  intro v tv t' n' h' tk' hv0 hv1 _ S e hg
  subst hn
  have D := N (dk, listO [.ref ia, .int k t] n) (by simp)
  refine ret v tv t' n' h' tk' hv0 hv1 hg.1 (Fr.stays F S (by simpa using Ne.symm D.2.1) (by simpa using D.2.2)) ?_
  rw [hf]
  intro q hq
  rcases List.mem_append.mp hq with z | z
  · have P := N q (List.mem_append_left _ z); exact ⟨S _ _ P.1 (by simpa using h1 q z), P.2⟩
  · rcases List.mem_cons.mp z with rfl | z
    · exact ⟨e, D.2⟩
    · have P := N q (List.mem_append_right _ (.tail _ z)); exact ⟨S _ _ P.1 (by simpa using h2 q z), P.2⟩
/-- the same, telling that marks were given -/
theorem draw_useP {w : World} {p : Program} {loose : List Str} {mean : ExcName → Option Value} {mg mb : Str → Option Value} {dp un : Nat} {gd : Option (List Code)} {cn : Str} {cs : Scope} {a : Addr} {ccd : Value} {cl : List (Str × Addr)} {outer : List Env} {A₀ : Around} {base h₀ : Heap} {L : Addr} {m : Str → Option Value} {s : Shared} {Q E : Value → Shared → Prop}
   {dk ia : Addr} {vs : List Value} {ns : List Int} {k : Int} {t : Tok} {n : Nat} {many : Int} {tm : Tok} {news : List (Addr × Obj)} {nf : Obj → List (Addr × Obj)}
   (B : Below A₀ base outer h₀) (F : Fr h₀ L s.heap m) (X : (Mine.K w.params).In h₀) (N : News h₀ L s.heap news) (T : Top p loose mean mg mb h₀) (hk : cs.kind = .function) (hdp : dp + 1 < recursionLimit) (hun : un + 40 < cLine)
   (U : UpdF dk (listO [.ref ia, .int k t] n) news nf) (hia : s.heap.IsList ia vs.toArray) (hne : ia ≠ dk) (hi : IntsAre vs ns) (hns : ns.length ≤ 63) (hk0 : 0 ≤ k) (hk1 : k < 1000) (hm0 : 0 < many) (hm1 : many ≤ 90)
   (ret : ∀ v tv t' n' h' tk', 0 ≤ v → v < many → 0 < tk' → Fr h₀ L h' m → News h₀ L h' (nf (listO [.ref ia, .int (k + 1) t'] n')) → Q (.int v tv) { s with heap := h', toks := tk' }) :
   wpAny (model PySem.Challenge.rw_nt0165_01.row.prog w) (ktrTop dp un gd cn cs L a ccd cl outer) (call (.ref 399) [.ref dk, .int many tm]) Q E s := by
  obtain ⟨pre, post, hn, hf, h1, h2⟩ := U.split
  refine wpAny_grow (CallOk.use (D := 1) (U := 40) (ks := [(dk, listO [.ref ia, .int k t] n)]) (draw_ok dk ia vs ns k t n many tm hia hne hi hns hk0 hk1 hm0 hm1 ?_) B F X (News.sub N (by rw [hn]; simp)) T hk hdp hun)
  intro v tv t' n' h' tk' hv0 hv1 hp S e hg
  subst hn
  have D := N (dk, listO [.ref ia, .int k t] n) (by simp)
  refine ret v tv t' n' h' tk' hv0 hv1 hp (Fr.stays F S (by simpa using Ne.symm D.2.1) (by simpa using D.2.2)) ?_
  rw [hf]
  intro q hq
  rcases List.mem_append.mp hq with z | z
  · have P := N q (List.mem_append_left _ z); exact ⟨S _ _ P.1 (by simpa using h1 q z), P.2⟩
  · rcases List.mem_cons.mp z with rfl | z
    · exact ⟨e, D.2⟩
    · have P := N q (List.mem_append_right _ (.tail _ z)); exact ⟨S _ _ P.1 (by simpa using h2 q z), P.2⟩
def MidT {σ : Type} (h₀ : Heap) (L : Addr) (s : Shared) (ps : σ → List (Str × Value)) (Led : σ → List (Addr × Obj)) (R : σ → Prop) (f : Flow) (s' : Shared) : Prop :=
  0 < s'.toks ∧ MidP h₀ L s ps Led R f s'
theorem execs_midT {M : Model} {A : Around} {E : Value → Shared → Prop} {s : Shared} {env : Env} {h₀ : Heap} {L : Addr} {Q : Flow → Shared → Prop} {σ : Type} {st : Stmt} {rest : List Stmt} (ps : σ → List (Str × Value)) (Led : σ → List (Addr × Obj)) (R : σ → Prop) (h1 : wpAny M A (exec st env) (MidT h₀ L s ps Led R) E s)
    (h2 : ∀ c (u : Str → Option Value) h tk, R c → 0 < tk → Fr h₀ L h (kstB u (ps c)) → News h₀ L h (Led c) → wpAny M A (execs rest env) Q E { s with heap := h, toks := tk }) : wpAny M A (execs (st :: rest) env) Q E s := by
  refine wpAny_execs_cons (wpAny_mono h1 (fun f s' z => ?_) fun _ _ e => e)
  obtain ⟨hp, rfl, c, h, tk, m, rfl, hr, F, N, hq⟩ := z
  exact h2 c m h tk hr hp (frOver _ F hq) N
end Mine
end
section
open PySem PySem.W PyProof.Rows PySem.Calls PySem.Spec
namespace Mine
local macro_rules | `(tactic| walk_at "call builtin:len") => `(tactic| (k_here; refine' len_list ?hl ?hb ?_; (case hl => first | exact Fr.lst (by assumption) (by assumption) | exact News.isList (by assumption) (by k_mem)); (case hb => (simp only [List.size_toArray]; omega))))
theorem list_of_gen {w : World} {s : Shared} {Q : Value → Shared → Prop} (args : List Value) (ax : Addr) (vs : List Value) (ns : List Int) (tl : Value)
   (hb : ∀ oc od osl fd, (Mine.K w.params).lookup 336 = some ⟨oc, od, .func fd, osl⟩ → ∀ s : Shared, (Mine.K w.params).In s.heap → BindsTo s fd ⟨args, []⟩ [("things", .ref ax), ("tail", tl)])
   (hax : s.heap.IsList ax vs.toArray) (hi : IntsAre vs ns) (hn : vs.length ≤ 1000)
   (ret : ∀ cells h' tk', Stays [] s.heap h' → (∀ p ∈ cellsLed w cells tl, h'.get? p.1 = some p.2 ∧ s.heap.get? p.1 = none) → ((cellsLed w cells tl).map (·.1)).Nodup → IntsAre (cells.map (·.v)) ns → Q (hdV cells tl) { s with heap := h', toks := tk' }) :
   CallOk 3 60 w 336 args [] s Q := by
  intro p loose mean mg mb dp un gd cn cs a ccd cl outer A₀ base h₀ L m E B F X N T hk hdp hun
  revert X; k_fill; intro X
  refine wpAny_call (enterH (K := Mine.K w.params) (binds := [("things", .ref ax), ("tail", tl)]) B F X N T rfl rfl hk (by k_is) (by k_is) (by ktr_room) (hb _ _ _ _ (by k_is) s (X.keeps F.keep)) (locs rfl) ?_ rfl rfl rfl (by decide))
  intro g L' h' hg1 hg2 F' N' B' X' T' l1
  have hlen := hi.length
  have hax' : g.IsList ax vs.toArray := by
    obtain ⟨o, ho, r⟩ := hax
    exact ⟨o, hg1 _ _ ho (by simp), r⟩
  clear F N B X T hg2
  try dsimp only
  try k_fold
  (k_with "pyIter ref" => refine hold_in ?_)
  k_steps
  k_with_none
  refine hold_out ?_
  clear l1
  with_unfolding_all refine for_range (n := vs.length) (fun cells => cellsLed w cells tl) (fun cells => [("found", hdV cells tl), ("things", .ref ax)]) (fun i cells => ((cellsLed w cells tl).map (·.1)).Nodup ∧ IntsAre (cells.map (·.v)) (ns.drop (ns.length - i))) [] rfl (by assumption) ?small ?size (by assumption) (by assumption) ?ps0 ?r0 ?turn ?done
  case small => simp only [List.size_toArray]; exact small_down (by omega) (by omega) (by omega) (by omega)
  case size => simp only [List.size_toArray]; rw [rangeSize_downNat]; omega
  case ps0 => intro p hp; simp only [List.mem_cons, List.not_mem_nil, or_false] at hp; rcases hp with h | h <;> subst h <;> rfl
  case r0 => simp [cellsLed]; exact .nil
  case done =>
    intro cells u h tk hR F N
    try dsimp only
    k_steps
    exact ret cells _ _ (hg1.done (by assumption)) (fun p hp => ⟨(N p hp).1, none_stays hg1 (N p hp).2.2 (by simp)⟩) hR.1 (by have z := hR.2; rw [hlen, Nat.sub_self] at z; exact z)
  case turn =>
    intro i t cells u h tk I oi hi2 hR hne F N
    clear ret
    try dsimp only
    k_steps
    exact turn_list_of (by assumption) (by assumption) (by assumption) (by assumption) hR hne (by omega) (by simp only [List.size_toArray]; omega) rfl rfl

theorem list_of_ok {w : World} {s : Shared} {Q : Value → Shared → Prop} (ax : Addr) (vs : List Value) (ns : List Int) (tl : Value)
   (hax : s.heap.IsList ax vs.toArray) (hi : IntsAre vs ns) (hn : vs.length ≤ 1000)
   (ret : ∀ cells h' tk', Stays [] s.heap h' → (∀ p ∈ cellsLed w cells tl, h'.get? p.1 = some p.2 ∧ s.heap.get? p.1 = none) → ((cellsLed w cells tl).map (·.1)).Nodup → IntsAre (cells.map (·.v)) ns → Q (hdV cells tl) { s with heap := h', toks := tk' }) :
   CallOk 3 60 w 336 [.ref ax, tl] [] s Q := by
  refine list_of_gen [.ref ax, tl] ax vs ns tl ?_ hax hi hn ret
  intro oc od osl fd
  intro h s X
  have e := Option.some.inj (h.symm.trans (by k_is))
  cases e
  exact binds_K X rfl (by k_is) rfl rfl rfl
theorem list_of_ok1 {w : World} {s : Shared} {Q : Value → Shared → Prop} (ax : Addr) (vs : List Value) (ns : List Int)
   (hax : s.heap.IsList ax vs.toArray) (hi : IntsAre vs ns) (hn : vs.length ≤ 1000)
   (ret : ∀ cells h' tk', Stays [] s.heap h' → (∀ p ∈ cellsLed w cells (.ref 37), h'.get? p.1 = some p.2 ∧ s.heap.get? p.1 = none) → ((cellsLed w cells (.ref 37)).map (·.1)).Nodup → IntsAre (cells.map (·.v)) ns → Q (hdV cells (.ref 37)) { s with heap := h', toks := tk' }) :
   CallOk 3 60 w 336 [.ref ax] [] s Q := by
  refine list_of_gen [.ref ax] ax vs ns (.ref 37) ?_ hax hi hn ret
  intro oc od osl fd
  intro h s X
  have e := Option.some.inj (h.symm.trans (by k_is))
  cases e
  exact binds_K X rfl (by k_is) rfl rfl rfl
end Mine
end
section
open PySem PySem.W PyProof.Rows PySem.Calls PySem.Spec
namespace Mine
local macro_rules | `(tactic| walk_at "compareOp Is") => `(tactic| (k_here; refine' is_known ?hu ?hb ?_; (case hu => exact Known.up (by assumption) (by assumption)); (case hb => exact (InstAt.up (by assumption) (by assumption)).at_)))
structure Path (w : World) (h : Heap) (nx : Nat → Value) (c : Nat → Cell) (M : Nat) : Prop where
  cell : ∀ i < M, nx i = .ref (c i).a ∧ InstAt h (c i).a (instObj 148 (c i).d) 148 (some (pairD w (c i).v (nx (i + 1)) (c i).t1 (c i).t2)) ∧ handedIn (c i).v = true
  known : ∀ i ≤ M, Known h (nx i) ∧ handedIn (nx i) = true
def valsTo (c : Nat → Cell) (i : Nat) : List Value := (List.range i).map fun j => (c j).v
theorem valsTo_len (c : Nat → Cell) (i : Nat) : (valsTo c i).length = i := by simp [valsTo]
local macro_rules | `(tactic| walk_at "call builtin:len") => `(tactic| (k_here; refine' len_list ?hl ?hb ?_; (case hl => first | exact Fr.lst (by assumption) (by assumption) | exact News.isList (by assumption) (by k_mem)); (case hb => (simp only [Array.size_push, List.size_toArray, List.length_append, List.length_cons, List.length_nil, valsTo_len]; omega))))
local macro_rules | `(tactic| walk_at "Mz") => `(tactic| (simp only [List.size_toArray, valsTo_len, PySem.sizeLine_eq]; omega))
local macro_rules | `(tactic| k_inst) => `(tactic| exact InstAt.up (by assumption) (by assumption))
local macro_rules | `(tactic| k_handed) => `(tactic| assumption)
theorem valsTo_succ (c : Nat → Cell) (i : Nat) : valsTo c (i + 1) = valsTo c i ++ [(c i).v] := by simp [valsTo, List.range_succ]
theorem split_ok {w : World} {s : Shared} {Q : Value → Shared → Prop} (nx : Nat → Value) (c : Nat → Cell) (M : Nat) (ring : Bool) (P : Path w s.heap nx c M) (hM : M ≤ 200)
   (hend : (ring = false ∧ (nx M = .ref 37 ∨ ∃ t, nx M = .int 7 t) ∧ ∀ k, 0 < k → 2 * k ≤ M → nx (2 * k) ≠ nx k) ∨ (ring = true ∧ ∃ K, 0 < K ∧ M = 2 * K ∧ nx M = nx K))
   (ret : ∀ T things i n h' tk', Stays [] s.heap h' → (ring = false → i = M) → h'.get? T = some { cls := .type "tuple", data := .seq #[.ref things, if ring then .none else nx M] } → h'.get? things = some (W.listOf (valsTo c i).toArray n) → s.heap.get? T = none → s.heap.get? things = none → things ≠ T →
     Q (.ref T) { s with heap := h', toks := tk' }) :
   CallOk 3 60 w 343 [nx 0] [] s Q := by
  intro p loose mean mg mb dp un gd cn cs a ccd cl outer A₀ base h₀ L m E B F X N T hk hdp hun
  revert X; k_fill; intro X
  refine wpAny_call (enterH (K := Mine.K w.params) (binds := [("datum", nx 0)]) B F X N T rfl rfl hk (by k_is) (by k_is) (by ktr_room) (BindsTo.of_eq rfl) (locs rfl) ?_ rfl rfl rfl (by decide))
  intro g L' h' hg1 hg2 F' N' B' X' T' l1
  have P' : Path w g nx c M := ⟨fun i hi => let ⟨e, I, q⟩ := P.cell i hi; ⟨e, ⟨hg1 _ _ I.at_ (by simp), rfl, I.no, hg1 _ _ I.dict (by simp)⟩, q⟩,
    fun i hi => ⟨(P.known i hi).1.imp (fun ⟨a, o, e, q, n⟩ => ⟨a, o, e, hg1 _ _ q (by simp), n⟩) id, (P.known i hi).2⟩⟩
  clear F N B X T hg2
  try dsimp only
  try k_fold
  (k_with "exec While Call cons nil" => refine hold_in ?_)
  k_steps
  k_with_none
  refine hold_out ?_
  clear l1
  rename_i la _ _ _ _ _ _ _
  with_unfolding_all refine while_inv (fun i => [(la, W.listOf (valsTo c i).toArray i)]) (fun i => [("slow", nx (i / 2)), ("at", nx i), ("things", .ref la)]) (fun i => i ≤ M ∧ (ring = true → i < M)) (fun i => M - i) 0 (by assumption) (by assumption) ?ps0 ?r0 ?turn
  case ps0 => intro p hp; simp only [List.mem_cons, List.not_mem_nil, or_false] at hp; rcases hp with h | h | h <;> subst h <;> rfl
  case r0 => exact ⟨Nat.zero_le _, fun hr => by rcases hend with h | ⟨_, K, h1, h2, _⟩; (rw [hr] at h; cases h.1); omega⟩
  case turn =>
    rintro i u h tk ⟨hiM, hring⟩ F N
    by_cases hlt : i < M
    · obtain ⟨e1, I1, hh1⟩ := P'.cell i hlt
      have kn := P'.known (i + 1) hlt
      have hh2 := kn.2
      rw [e1] at F
      try dsimp only
      k_steps
      · rename (_ = (0 : Int)) => hpar
        have hpar' : (i + 1) % 2 = 0 := by
          simp only [List.size_toArray, List.length_append, List.length_cons, List.length_nil, valsTo_len] at hpar
          rw [Int.fmod_eq_emod_of_nonneg _ (by decide)] at hpar
          omega
        have hs1 : i / 2 + 1 < M := by omega
        obtain ⟨e2, I2, _⟩ := P'.cell (i / 2) (by omega)
        obtain ⟨e3, I3, _⟩ := P'.cell (i / 2 + 1) hs1
        have kn1 := kn.1
        have kn2 := (P'.known (i / 2 + 1) (by omega)).2
        rw [e3] at I2 kn2
        rw [e2]
        k_steps
        · rename (_ = Value.ref _) => heq
          rename News _ _ _ _ => NN
          have h1 : ring = true := by
            rcases hend with ⟨_, _, q⟩ | q
            · exact absurd (by rw [e3, ← heq, show 2 * (i / 2 + 1) = i + 1 from by omega]) (q (i / 2 + 1) (by omega) (by omega))
            · exact q.1
          subst h1
          have h2 := NN _ (.head _)
          have h3 := NN _ (.tail _ (.head _))
          refine ret _ la (i + 1) (i + 1) _ _ (hg1.done (by assumption)) (fun q => by cases q) h2.1 ?_ (none_stays hg1 h2.2.2 (by simp)) (none_stays hg1 h3.2.2 (by simp)) ?_
          · rw [valsTo_succ]; exact h3.1
          · exact two_objs h3.1 h2.1 rfl rfl (by decide)
        · rename (¬ (_ = Value.ref _)) => heq
          refine WhileE.mk (i + 1) (by assumption) (by assumption) ?_ ?_ ⟨by omega, fun hr => ?_⟩ (by omega)
          · intro p hp; rw [valsTo_succ] at hp; exact hp
          · intro p hp; simp only [List.mem_cons, List.not_mem_nil, or_false] at hp; rcases hp with h | h | h <;> subst h
            · show _ = some (nx ((i + 1) / 2)); rw [show (i + 1) / 2 = i / 2 + 1 from by omega, e3]; rfl
            · rfl
            · rfl
          · rcases hend with ⟨q, _⟩ | ⟨_, K, q1, q2, q3⟩
            · rw [q] at hr; cases hr
            · refine Nat.lt_of_le_of_ne (by omega) fun q => heq ?_
              rw [← e3, q, q3]; congr 1; omega
      · rename (¬ (_ = (0 : Int))) => hpar
        have hpar' : (i + 1) % 2 ≠ 0 := by
          intro q
          apply hpar
          simp only [List.size_toArray, List.length_append, List.length_cons, List.length_nil, valsTo_len]
          rw [Int.fmod_eq_emod_of_nonneg _ (by decide)]
          omega
        refine WhileE.mk (i + 1) (by assumption) (by assumption) ?_ ?_ ⟨by omega, fun hr => ?_⟩ (by omega)
        · intro p hp; rw [valsTo_succ] at hp; exact hp
        · intro p hp; simp only [List.mem_cons, List.not_mem_nil, or_false] at hp; rcases hp with h | h | h <;> subst h
          · show _ = some (nx ((i + 1) / 2)); rw [show (i + 1) / 2 = i / 2 from by omega]; rfl
          · rfl
          · rfl
        · rcases hend with ⟨q, _⟩ | ⟨_, K, q1, q2, q3⟩
          · rw [q] at hr; cases hr
          · omega
    · have hiM' : i = M := by omega
      subst hiM'
      have hnr : ring = false := by cases ring with | false => rfl | true => exact absurd (hring rfl) hlt
      subst hnr
      rcases hend with ⟨_, q, _⟩ | ⟨q, _⟩
      · rcases q with q | ⟨t7, q⟩
        · rw [q] at F
          k_steps
          rename News _ _ _ _ => NN
          have h2 := NN _ (.head _)
          have h3 := NN _ (.tail _ (.head _))
          refine ret _ la i i _ _ (hg1.done (by assumption)) (fun _ => rfl) (by rw [q]; exact h2.1) h3.1 (none_stays hg1 h2.2.2 (by simp)) (none_stays hg1 h3.2.2 (by simp)) ?_
          exact two_objs h3.1 h2.1 rfl rfl (by decide)
        · rw [q] at F
          k_steps
          rename News _ _ _ _ => NN
          have h2 := NN _ (.head _)
          have h3 := NN _ (.tail _ (.head _))
          refine ret _ la i i _ _ (hg1.done (by assumption)) (fun _ => rfl) (by rw [q]; exact h2.1) h3.1 (none_stays hg1 h2.2.2 (by simp)) (none_stays hg1 h3.2.2 (by simp)) ?_
          exact two_objs h3.1 h2.1 rfl rfl (by decide)
      · cases q
end Mine
end
section
open PySem PySem.W PyProof.Rows PySem.Calls PySem.Spec
namespace Mine
theorem Path.up {w : World} {h₀ h : Heap} {L : Addr} {m : Str → Option Value} {nx : Nat → Value} {c : Nat → Cell} {M : Nat} (P : Path w h₀ nx c M) (F : Fr h₀ L h m) : Path w h nx c M :=
  ⟨fun i hi => let ⟨e, I, q⟩ := P.cell i hi; ⟨e, InstAt.up F I, q⟩, fun i hi => ⟨(P.known i hi).1.elim (fun q => Known.up F (.inl q)) (fun q => Known.up F (.inr q)), (P.known i hi).2⟩⟩
theorem Path.stays {w : World} {h₀ h : Heap} {ks : List Addr} {nx : Nat → Value} {c : Nat → Cell} {M : Nat} (P : Path w h₀ nx c M) (S : Stays ks h₀ h) (hk : ∀ i < M, (c i).a ∉ ks ∧ (c i).d ∉ ks) (hM : ∀ a, nx M = .ref a → a ∉ ks) : Path w h nx c M :=
  ⟨fun i hi => let ⟨e, I, q⟩ := P.cell i hi; ⟨e, ⟨S _ _ I.at_ (hk i hi).1, rfl, I.no, S _ _ I.dict (hk i hi).2⟩, q⟩,
    fun i hi => ⟨(P.known i hi).1.imp (fun ⟨a, o, e, q, n⟩ => ⟨a, o, e, S _ _ q (by
      rcases Nat.lt_or_eq_of_le hi with h | h
      · have z := (P.cell i h).1
        rw [e] at z
        exact Value.ref.inj z ▸ (hk i h).1
      · subst h; exact hM a e), n⟩) id, (P.known i hi).2⟩⟩
local macro_rules | `(tactic| walk_at "call ref") => `(tactic| (k_here; k_dflt (refine Mine.hold_ref [343] rfl ?_)))
local macro_rules | `(tactic| walk_at "compareOp Is") => `(tactic| (k_here; (with_reducible show wpAny _ _ (compareOp CmpOp.Is (Value.int _ _) (Value.ref _)) _ _ _); refine is_int_ref ?_))
theorem items_ok {w : World} {s : Shared} {Q : Value → Shared → Prop} (nx : Nat → Value) (c : Nat → Cell) (M : Nat) (ring : Bool) (P : Path w s.heap nx c M) (hM : M ≤ 200)
   (hend : (ring = false ∧ (nx M = .ref 37 ∨ ∃ t, nx M = .int 7 t) ∧ ∀ k, 0 < k → 2 * k ≤ M → nx (2 * k) ≠ nx k) ∨ (ring = true ∧ ∃ K, 0 < K ∧ M = 2 * K ∧ nx M = nx K))
   (ret0 : ring = true ∨ nx M ≠ .ref 37 → ∀ h' tk', Stays [] s.heap h' → Q .none { s with heap := h', toks := tk' })
   (ret1 : ring = false → nx M = .ref 37 → ∀ things n h' tk', Stays [] s.heap h' → h'.get? things = some (W.listOf (valsTo c M).toArray n) → s.heap.get? things = none → Q (.ref things) { s with heap := h', toks := tk' }) :
   CallOk 5 100 w 350 [nx 0] [] s Q := by
  intro p loose mean mg mb dp un gd cn cs a ccd cl outer A₀ base h₀ L m E B F X N T hk hdp hun
  revert X; k_fill; intro X
  refine wpAny_call (enterH (K := Mine.K w.params) (binds := [("datum", nx 0)]) B F X N T rfl rfl hk (by k_is) (by k_is) (by ktr_room) (BindsTo.of_eq rfl) (locs rfl) ?_ rfl rfl rfl (by decide))
  intro g L' h' hg1 hg2 F' N' B' X' T' l1
  have P' : Path w g nx c M := P.stays hg1 (fun _ _ => by simp) (fun _ _ => by simp)
  clear F N B X T hg2
  try dsimp only
  try k_fold
  k_steps
  refine hold_out ?_
  refine CallOk.use (D := 3) (U := 60) (ks := []) (split_ok nx c M ring (P'.up (by assumption)) hM hend ?_) (by assumption) (by assumption) (by assumption) (by assumption) (by assumption) rfl (by ktr_room) (by ktr_units)
  intro Tt things i n h2 tk2 S2 hi hT hth nT nth hne
  obtain ⟨F2, N2⟩ := call_pure F' N' S2
  have N3 := News.add F' (News.add F' N2 hth nth) hT nT
  have nt0 : s.heap.get? things = none := none_stays hg1 (News.fresh N3 (.tail _ (.head _))) (by simp)
  clear F' N' N2 hT hth S2 nT
  rcases hend with ⟨hr, q, _⟩ | ⟨hr, _⟩
  · subst hr
    rcases q with q | ⟨t7, q⟩
    · simp only [q, Bool.false_eq_true, if_false] at N3
      k_steps
      exact ret1 rfl q things n _ _ (hg1.done (by assumption)) (by rw [← hi rfl]; exact News.at (by assumption) (.tail _ (.head _))) nt0
    · simp only [q, Bool.false_eq_true, if_false] at N3
      k_steps
      exact ret0 (.inr (by rw [q]; exact fun z => by cases z)) _ _ (hg1.done (by assumption))
  · subst hr
    simp only [if_true] at N3
    k_steps
    exact ret0 (.inl rfl) _ _ (hg1.done (by assumption))

theorem proper_ok {w : World} {s : Shared} {Q : Value → Shared → Prop} (nx : Nat → Value) (c : Nat → Cell) (M : Nat) (ring : Bool) (P : Path w s.heap nx c M) (hM : M ≤ 200)
   (hend : (ring = false ∧ (nx M = .ref 37 ∨ ∃ t, nx M = .int 7 t) ∧ ∀ k, 0 < k → 2 * k ≤ M → nx (2 * k) ≠ nx k) ∨ (ring = true ∧ ∃ K, 0 < K ∧ M = 2 * K ∧ nx M = nx K))
   (ret : ∀ h' tk', Stays [] s.heap h' → Q (.bool (!ring && decide (nx M = .ref 37))) { s with heap := h', toks := tk' }) :
   CallOk 5 100 w 357 [nx 0] [] s Q := by
  intro p loose mean mg mb dp un gd cn cs a ccd cl outer A₀ base h₀ L m E B F X N T hk hdp hun
  revert X; k_fill; intro X
  refine wpAny_call (enterH (K := Mine.K w.params) (binds := [("datum", nx 0)]) B F X N T rfl rfl hk (by k_is) (by k_is) (by ktr_room) (BindsTo.of_eq rfl) (locs rfl) ?_ rfl rfl rfl (by decide))
  intro g L' h' hg1 hg2 F' N' B' X' T' l1
  have P' : Path w g nx c M := P.stays hg1 (fun _ _ => by simp) (fun _ _ => by simp)
  clear F N B X T hg2
  try dsimp only
  try k_fold
  k_steps
  refine hold_out ?_
  refine CallOk.use (D := 3) (U := 60) (ks := []) (split_ok nx c M ring (P'.up (by assumption)) hM hend ?_) (by assumption) (by assumption) (by assumption) (by assumption) (by assumption) rfl (by ktr_room) (by ktr_units)
  intro Tt things i n h2 tk2 S2 hi hT hth nT nth hne
  obtain ⟨F2, N2⟩ := call_pure F' N' S2
  have N3 := News.add F' (News.add F' N2 hth nth) hT nT
  clear F' N' N2 hT hth S2 nT
  rcases hend with ⟨hr, q, _⟩ | ⟨hr, _⟩
  · subst hr
    rcases q with q | ⟨t7, q⟩
    · simp only [q, Bool.false_eq_true, if_false] at N3
      have ret1 : ∀ h' tk', Stays [] s.heap h' → Q (.bool true) { s with heap := h', toks := tk' } := fun h' tk' S => by have z := ret h' tk' S; rw [q] at z; exact z
      k_steps
      exact ret1 _ _ (hg1.done (by assumption))
    · simp only [q, Bool.false_eq_true, if_false] at N3
      have ret1 : ∀ h' tk', Stays [] s.heap h' → Q (.bool false) { s with heap := h', toks := tk' } := fun h' tk' S => by have z := ret h' tk' S; rw [q] at z; exact z
      k_steps
      exact ret1 _ _ (hg1.done (by assumption))
  · subst hr
    simp only [if_true] at N3
    k_steps
    exact ret _ _ (hg1.done (by assumption))
end Mine
end
section
open PySem PySem.W PyProof.Rows PySem.Calls PySem.Spec PyProof.V
namespace Mine
section
variable {prog : Program} {w : World} {A : Around} {h₀ : Heap} {L : Addr} {m : Str → Option Value} {env : Env} {elt : Expr} {x : Str} {scope : Scope} {cl : List (Str × Addr)} {s : Shared} {S : List (Addr × Obj) → Prop} {P : Nat → Value → Prop} {Fin : List Value → List (Addr × Obj) → Prop}
def CompE {σ : Type} (h₀ : Heap) (L : Addr) (m : Str → Option Value) (Led : σ → List (Addr × Obj)) (S : List (Addr × Obj) → Prop) (R : Value → σ → Prop) (I : Addr) (oI : Obj) (C : Addr) (oC : Obj) (D : Addr) (oD : Obj) (s₁ : Shared) (y : Value) (s₂ : Shared) : Prop :=
  ∃ c h' tk, s₂ = { s₁ with heap := h', toks := tk } ∧ Fr h₀ L h' m ∧ News h₀ L h' ((I, oI) :: (C, oC) :: (D, oD) :: Led c) ∧ (∀ p ∈ Led c, p.1 ≠ I ∧ p.1 ≠ C ∧ p.1 ≠ D) ∧ S (Led c) ∧ R y c
theorem CompE.mk {σ : Type} {Led : σ → List (Addr × Obj)} {R : Value → σ → Prop} {I C D : Addr} {oI oC oD : Obj} {s₁ : Shared} {y : Value} {h' : Heap} {tk : Nat} {all : List (Addr × Obj)} (c : σ) (F : Fr h₀ L h' m) (N : News h₀ L h' all) (sub : ∀ p ∈ (I, oI) :: (C, oC) :: (D, oD) :: Led c, p ∈ all)
    (off : ∀ p ∈ Led c, p.1 ≠ I ∧ p.1 ≠ C ∧ p.1 ≠ D) (hS : S (Led c)) (hr : R y c) : CompE h₀ L m Led S R I oI C oC D oD s₁ y { s₁ with heap := h', toks := tk } := ⟨c, h', tk, rfl, F, fun p hp => N p (sub p hp), off, hS, hr⟩
theorem comp_inv {σ : Type} (Led : σ → List (Addr × Obj)) (R : Nat → List Value → σ → Prop) (c₀ : σ) {n : Nat} (hr : R 0 [] c₀)
    (turn : ∀ i v ys c I oI C oC D m₂ h tk (E' : Value → Shared → Prop), i < n → P i v → R i ys c → LCg.NsObj oC m₂ → m₂ x = some v → Fr h₀ L h m → News h₀ L h ((I, oI) :: (C, oC) :: (D, LCg.lst ys) :: Led c) → (∀ p ∈ Led c, p.1 ≠ I ∧ p.1 ≠ C ∧ p.1 ≠ D) → ((@Ne Nat I C) ∧ (@Ne Nat I D) ∧ (@Ne Nat C D)) →
      wpAny (model prog w) A (eval elt (compEnvC scope cl C env)) (CompE h₀ L m Led S (fun y c' => R (i + 1) (ys ++ [y]) c') I oI C oC D (LCg.lst ys) { s with heap := h, toks := tk }) E' { s with heap := h, toks := tk })
    (fin : ∀ ys c, R n ys c → Fin ys (Led c)) : LCg.CompRest prog w A h₀ L m env elt x scope cl s S P Fin n 0 [] (Led c₀) := by
  have key : ∀ (j i : Nat) (ys : List Value) (c : σ), i + j = n → R i ys c → LCg.CompRest prog w A h₀ L m env elt x scope cl s S P Fin j i ys (Led c) := by
    intro j
    induction j with
    | zero =>
      intro i ys c hi hy
      have e : i = n := by omega
      subst e
      exact LCg.CompRest.zero (fin ys c hy)
    | succ j ih =>
      intro i ys c hi hy
      refine LCg.CompRest.succ ?_
      intro v I oI C oC D m₂ h tk E' hv hC hx F N off ne
      refine wpAny_mono (turn i v ys c I oI C oC D m₂ h tk E' (by omega) hv hy hC hx F N (LCg.Off3.mem off) ne) (fun y s₂ hq => ?_) fun _ _ e => e
      obtain ⟨c', h', tk', e, F', N', off', hS, hr'⟩ := hq
      exact ⟨h', tk', Led c', e, F', N', LCg.Off3.of off', hS, ih (i + 1) _ c' (by omega) hr'⟩
  exact key n 0 [] c₀ (by omega) hr
end
end Mine
end
section
open PySem PySem.W PyProof.Rows PySem.Calls PySem.Spec PyProof.V
namespace Mine
def nxA (cs : List Cell) (tl : Value) (i : Nat) : Value := hdV (cs.drop i) tl
def cA (cs : List Cell) (i : Nat) : Cell := cs.getD i ⟨0, 0, .none, 0, 0⟩
def refsTo (cs : List Cell) (i : Nat) : List Value := (cs.take i).map fun c => .ref c.a
theorem refsTo_len (cs : List Cell) {i : Nat} (h : i ≤ cs.length) : (refsTo cs i).length = i := by simp [refsTo, h]
theorem refsTo_succ (cs : List Cell) {i : Nat} (h : i < cs.length) : refsTo cs (i + 1) = refsTo cs i ++ [.ref (cA cs i).a] := by
  unfold refsTo cA
  rw [List.take_add_one, List.getD_eq_getElem?_getD, List.getElem?_eq_getElem h, List.map_append]
  rfl
theorem nxA_zero (cs : List Cell) (tl : Value) : nxA cs tl 0 = hdV cs tl := rfl
theorem nxA_end (cs : List Cell) (tl : Value) : nxA cs tl cs.length = tl := by unfold nxA; rw [List.drop_length]; rfl
theorem cells_at (w : World) (tl : Value) : ∀ (cs : List Cell) (i : Nat), i < cs.length →
    nxA cs tl i = .ref (cA cs i).a ∧ ((cA cs i).a, instObj 148 (cA cs i).d) ∈ cellsLed w cs tl ∧ ((cA cs i).d, pairD w (cA cs i).v (nxA cs tl (i + 1)) (cA cs i).t1 (cA cs i).t2) ∈ cellsLed w cs tl
  | [], _, h => absurd h (Nat.not_lt_zero _)
  | c :: r, 0, _ => ⟨rfl, .head _, .tail _ (.head _)⟩
  | c :: r, i + 1, h => by
    obtain ⟨e1, e2, e3⟩ := cells_at w tl r i (by simpa using h)
    exact ⟨e1, .tail _ (.tail _ e2), .tail _ (.tail _ e3)⟩
theorem cA_mem {cs : List Cell} {i : Nat} (h : i < cs.length) : cA cs i ∈ cs := by
  unfold cA
  rw [List.getD_eq_getElem?_getD, List.getElem?_eq_getElem h]
  exact List.getElem_mem h
theorem cA_addr_inj {w : World} {tl : Value} : ∀ {cs : List Cell}, ((cellsLed w cs tl).map (·.1)).Nodup → ∀ {i j : Nat}, i < cs.length → j < cs.length → (cA cs i).a = (cA cs j).a → i = j
  | [], _, i, _, h, _, _ => absurd h (Nat.not_lt_zero _)
  | c :: r, hn, 0, 0, _, _, _ => rfl
  | c :: r, hn, 0, j + 1, _, hj, e => by
    simp only [cellsLed, List.map_cons, List.nodup_cons, List.mem_cons, not_or] at hn
    have z := (cells_at w tl r j (by simpa using hj)).2.1
    exact absurd (List.mem_map_of_mem (f := fun x : Addr × Obj => x.1) z) (by show ¬ (cA r j).a ∈ _; rw [show (cA r j).a = c.a from e.symm]; exact hn.1.2)
  | c :: r, hn, i + 1, 0, hi, _, e => by
    simp only [cellsLed, List.map_cons, List.nodup_cons, List.mem_cons, not_or] at hn
    have z := (cells_at w tl r i (by simpa using hi)).2.1
    exact absurd (List.mem_map_of_mem (f := fun x : Addr × Obj => x.1) z) (by show ¬ (cA r i).a ∈ _; rw [show (cA r i).a = c.a from e]; exact hn.1.2)
  | c :: r, hn, i + 1, j + 1, hi, hj, e => by
    simp only [cellsLed, List.map_cons, List.nodup_cons] at hn
    exact congrArg (· + 1) (cA_addr_inj (tl := tl) hn.2.2 (by simpa using hi) (by simpa using hj) e)
theorem ints_handed0 {vs : List Value} {ms : List Int} (h : IntsAre vs ms) : ∀ v ∈ vs, handedIn v = true := by
  induction h with
  | nil => intro v hv; cases hv
  | cons n t _ ih =>
    intro v hv
    rcases List.mem_cons.mp hv with rfl | hv
    · rfl
    · exact ih v hv
theorem ints_handed {cs : List Cell} {ms : List Int} (h : IntsAre (cs.map (·.v)) ms) : ∀ c ∈ cs, handedIn c.v = true := fun c hc => ints_handed0 h _ (List.mem_map_of_mem (f := fun x : Cell => x.v) hc)
/-- the path along cells that stand -/
theorem path_of {w : World} {h : Heap} {cs : List Cell} {tl : Value} {ms : List Int} (H : ∀ p ∈ cellsLed w cs tl, h.get? p.1 = some p.2) (hi : IntsAre (cs.map (·.v)) ms) (hk : Known h tl) (ht : handedIn tl = true) : Path w h (nxA cs tl) (cA cs) cs.length where
  cell i hl := by
    obtain ⟨e1, e2, e3⟩ := cells_at w tl cs i hl
    exact ⟨e1, ⟨H _ e2, rfl, rfl, H _ e3⟩, ints_handed hi _ (cA_mem hl)⟩
  known i hl := by
    rcases Nat.lt_or_eq_of_le hl with q | q
    · obtain ⟨e1, e2, _⟩ := cells_at w tl cs i q
      rw [e1]
      exact ⟨.inl ⟨_, _, rfl, H _ e2, by intro z; cases z⟩, rfl⟩
    · subst q; rw [nxA_end]; exact ⟨hk, ht⟩
theorem News.adds {g h h' : Heap} {L : Addr} {m : Str → Option Value} {l : List (Addr × Obj)} (F : Fr g L h m) (hc : ∀ p ∈ l, h'.get? p.1 = some p.2 ∧ h.get? p.1 = none) : News g L h' l := fun p hp => by
  obtain ⟨e, n⟩ := hc p hp
  refine ⟨e, fun q => ?_, ?_⟩
  · obtain ⟨oL, _, _, hL, _⟩ := F.ns
    rw [← q, n] at hL; cases hL
  · cases q : g.get? p.1 with
    | none => rfl
    | some o' => have z := F.keep _ _ q; rw [n] at z; cases z
theorem isnot_small {M : Model} {A : Around} {E : Value → Shared → Prop} {s : Shared} {Q : Value → Shared → Prop} {i : Int} {t : Tok} (ht : t ≠ 0) (hs : smallInt i = true) (h : Q (.bool false) s) : wpAny M A (compareOp .IsNot (.int i t) (.int i t)) Q E s := by
  show wpAny M A (do return .bool (!(← isSame (.int i t) (.int i t)))) Q E s
  refine wpAny_bind ?_
  show wpAny M A (if (i == i && smallInt i) = true then isSame.cachedInt t t else isSame.created (i == i) t t) _ E s
  rw [hs, Bool.and_true, if_pos (beq_self_eq_true i)]
  unfold isSame.cachedInt
  rw [if_neg (by simpa using ht)]
  exact wpAny_bind (wpAny_rule (wpAny_pure (wpAny_pure h)))
theorem ne_intsS {prog : Program} {w : World} {A : Around} {E : Value → Shared → Prop} {s : Shared} {a b : Addr} {vs us : List Value} {ms : List Int} {Q : Value → Shared → Prop} (hl : s.heap.IsList a vs.toArray) (hi : IntsAre vs ms) (hl' : s.heap.IsList b us.toArray) (hi' : IntsAre us ms) (hu : A.units + 64 < cLine)
    (h : Q (.bool false) s) : wpAny (model prog w) A (compareOp .NotEq (.ref a) (.ref b)) Q E s := ne_intsK hl hi hl' hi' hu (by rw [decide_eq_true (rfl : ms = ms)]; exact h)
theorem eq_intsS {prog : Program} {w : World} {A : Around} {E : Value → Shared → Prop} {s : Shared} {a b : Addr} {vs us : List Value} {ms : List Int} {Q : Value → Shared → Prop} (hl : s.heap.IsList a vs.toArray) (hi : IntsAre vs ms) (hl' : s.heap.IsList b us.toArray) (hi' : IntsAre us ms) (hu : A.units + 64 < cLine)
    (h : Q (.bool true) s) : wpAny (model prog w) A (compareOp .Eq (.ref a) (.ref b)) Q E s := eq_intsK hl hi hl' hi' hu (by rw [decide_eq_true (rfl : ms = ms)]; exact h)
theorem refsTo_get {cs : List Cell} {i : Nat} {v : Value} (h : (refsTo cs cs.length).toArray[i]? = some v) : i < cs.length ∧ v = .ref (cA cs i).a := by
  unfold refsTo at h
  rw [List.take_length] at h
  simp only [List.getElem?_toArray, List.getElem?_map, Option.map_eq_some_iff] at h
  obtain ⟨c, hc, rfl⟩ := h
  obtain ⟨hl, e⟩ := List.getElem?_eq_some_iff.mp hc
  refine ⟨hl, ?_⟩
  unfold cA
  rw [List.getD_eq_getElem?_getD, hc]; rfl
theorem vals_succ (cs : List Cell) {i : Nat} (h : i < cs.length) : (cs.take (i + 1)).map (·.v) = (cs.take i).map (·.v) ++ [(cA cs i).v] := by
  unfold cA
  rw [List.take_add_one, List.getD_eq_getElem?_getD, List.getElem?_eq_getElem h, List.map_append]
  rfl
theorem News.app {g h : Heap} {L : Addr} {l r : List (Addr × Obj)} (a : News g L h l) (b : News g L h r) : News g L h (l ++ r) := fun p hp => (List.mem_append.mp hp).elim (a p) (b p)
end Mine
end
section
open PySem PySem.W PyProof.Rows PySem.Calls PySem.Spec PyProof.V
namespace Mine
theorem CallOk.args {D U : Nat} {w : World} {f : Addr} {vs vs' : List Value} {ks : List (Addr × Obj)} {s : Shared} {Q : Value → Shared → Prop} (e : vs = vs') (C : CallOk D U w f vs ks s Q) : CallOk D U w f vs' ks s Q := e ▸ C
def idxR (n j i : Nat) : Nat := if i < n then i else j + (i - j) % (n - j)
theorem idxR_lt {n j : Nat} (hj : j < n) (i : Nat) : idxR n j i < n := by
  unfold idxR
  split
  · assumption
  · have := Nat.mod_lt (i - j) (show n - j > 0 by omega)
    omega
theorem idxR_succ {n j : Nat} (hj : j < n) (i : Nat) : idxR n j (i + 1) = if idxR n j i + 1 < n then idxR n j i + 1 else j := by
  unfold idxR
  by_cases h1 : i + 1 < n
  · rw [if_pos h1, if_pos (show i < n by omega), if_pos h1]
  · rw [if_neg h1]
    by_cases h2 : i < n
    · rw [if_pos h2, if_neg h1, show i + 1 - j = n - j by omega, Nat.mod_self, Nat.add_zero]
    · rw [if_neg h2]
      have hl : n - j > 0 := by omega
      have e := Nat.div_add_mod (i - j) (n - j)
      have hr := Nat.mod_lt (i - j) hl
      have e2 : i + 1 - j = (n - j) * ((i - j) / (n - j)) + ((i - j) % (n - j) + 1) := by omega
      rw [e2, Nat.mul_add_mod]
      by_cases h3 : (i - j) % (n - j) + 1 < n - j
      · rw [Nat.mod_eq_of_lt h3, if_pos (by omega)]; omega
      · rw [show (i - j) % (n - j) + 1 = n - j by omega, Nat.mod_self, if_neg (by omega), Nat.add_zero]
def nxR (cs : List Cell) (j i : Nat) : Value := .ref (cA cs (idxR cs.length j i)).a
def cR (cs : List Cell) (j i : Nat) : Cell := cA cs (idxR cs.length j i)
theorem path_ring {w : World} {h : Heap} {cs : List Cell} {j : Nat} {ms : List Int} (hj : j < cs.length) (H : ∀ p ∈ cellsLed w cs (.ref (cA cs j).a), h.get? p.1 = some p.2) (hi : IntsAre (cs.map (·.v)) ms) (M : Nat) : Path w h (nxR cs j) (cR cs j) M where
  cell i _ := by
    have hl := idxR_lt hj i
    obtain ⟨_, e2, e3⟩ := cells_at w (.ref (cA cs j).a) cs _ hl
    refine ⟨rfl, ⟨H _ e2, rfl, rfl, ?_⟩, ints_handed hi _ (cA_mem hl)⟩
    have e4 : nxA cs (.ref (cA cs j).a) (idxR cs.length j i + 1) = nxR cs j (i + 1) := by
      unfold nxR
      rw [idxR_succ hj i]
      by_cases q : idxR cs.length j i + 1 < cs.length
      · rw [if_pos q, (cells_at w _ cs _ q).1]
      · rw [if_neg q, show idxR cs.length j i + 1 = cs.length by omega, nxA_end]
    rw [e4] at e3
    exact H _ e3
  known i _ := by
    obtain ⟨_, e2, _⟩ := cells_at w (.ref (cA cs j).a) cs _ (idxR_lt hj i)
    exact ⟨.inl ⟨_, _, rfl, H _ e2, by intro z; cases z⟩, rfl⟩
theorem ring_end {cs : List Cell} {j : Nat} (hj : j < cs.length) : nxR cs j (2 * ((cs.length - j) * cs.length)) = nxR cs j ((cs.length - j) * cs.length) := by
  have hK : cs.length ≤ (cs.length - j) * cs.length := Nat.le_mul_of_pos_left _ (by omega)
  unfold nxR idxR
  rw [if_neg (by omega), if_neg (by omega)]
  have e : 2 * ((cs.length - j) * cs.length) - j = ((cs.length - j) * cs.length - j) + (cs.length - j) * cs.length := by omega
  rw [e, Nat.add_mul_mod_self_left]
theorem ring_small {n j : Nat} (hn : n ≤ 5) : 2 * ((n - j) * n) ≤ 200 := by
  have h1 : (n - j) * n ≤ 5 * 5 := Nat.mul_le_mul (by omega) hn
  omega
theorem found_ring {cs : List Cell} {tl : Value} {j : Nat} (hne : 0 < cs.length) : hdV cs tl = nxR cs j 0 := by
  cases cs with
  | nil => cases hne
  | cons c r => unfold nxR idxR; rw [if_pos hne]; rfl
theorem chain_apart {w : World} {cs : List Cell} {tl : Value} (hnd : ((cellsLed w cs tl).map (·.1)).Nodup) (htl : ∀ i < cs.length, tl ≠ .ref (cA cs i).a) : ∀ k, 0 < k → 2 * k ≤ cs.length → nxA cs tl (2 * k) ≠ nxA cs tl k := by
  intro k h1 h2 e
  have hk := cells_at w tl cs k (by omega)
  rw [hk.1] at e
  rcases Nat.lt_or_eq_of_le h2 with q | q
  · rw [(cells_at w tl cs _ q).1] at e
    have := cA_addr_inj hnd q (by omega) (Value.ref.inj e)
    omega
  · rw [q, nxA_end] at e
    exact htl k (by omega) e
theorem valsTo_cA (cs : List Cell) : valsTo (cA cs) cs.length = cs.map (·.v) := by
  have key : ∀ i, i ≤ cs.length → valsTo (cA cs) i = (cs.take i).map (·.v) := by
    intro i
    induction i with
    | zero => intro _; rfl
    | succ i ih => intro h; rw [valsTo_succ, ih (by omega), vals_succ cs (by omega)]
  rw [key _ (Nat.le_refl _), List.take_length]
theorem cellsLed_snoc (w : World) (c : Cell) (tl : Value) : ∀ pre : List Cell, cellsLed w (pre ++ [c]) tl = cellsLed w pre (.ref c.a) ++ [(c.a, instObj 148 c.d), (c.d, pairD w c.v tl c.t1 c.t2)]
  | [] => rfl
  | x :: r => by
    have e : hdV (r ++ [c]) tl = hdV r (.ref c.a) := by cases r <;> rfl
    rw [List.cons_append, cellsLed, cellsLed_snoc w c tl r, cellsLed, e]; rfl
section
variable {prog : Program} {w : World} {A : Around} {E : Value → Shared → Prop} {s : Shared} {a b : Addr} {l vs us : List Value} {k : Int} {u : Tok} {x : Value} {Q : Value → Shared → Prop} {value slice : Expr}
theorem sub_pos (hl : s.heap.IsList a l.toArray) (h0 : 0 ≤ k) (hfit : k < 2 ^ 63) (hx : l[k.toNat]? = some x) (h : Q x s)
    (hs : subscripted slice false (.ref a) (.int k u) = operate [.ref a, .int k u] (getItem (.ref a) (.int k u)) := by with_unfolding_all rfl) :
    wpAny (model prog w) A (subscriptTail value slice (.ref a) (.int k u)) Q E s := tail_any hl.typeIs slot_list_getitem.lookup (wpAny_getItem_list hl h0 hfit (by simpa using hx) h) hs
theorem sub_last (hl : s.heap.IsList a (l ++ [x]).toArray) (hn : l.length < 2 ^ 62) (h : Q x s)
    (hs : subscripted slice false (.ref a) (.int (-1) u) = operate [.ref a, .int (-1) u] (getItem (.ref a) (.int (-1) u)) := by with_unfolding_all rfl) :
    wpAny (model prog w) A (subscriptTail value slice (.ref a) (.int (-1) u)) Q E s :=
  tail_any hl.typeIs slot_list_getitem.lookup (wpAny_getItem_list_neg hl (by decide) (by simp; omega) (by decide) (by
    rw [List.size_toArray, show ((-1 : Int) + ((l ++ [x]).length : Int)).toNat = l.length by simp; omega]
    simp) h) hs
theorem ne_lens (hl : s.heap.IsList a vs.toArray) (hl' : s.heap.IsList b us.toArray) (hsz : vs.length ≠ us.length) (hu : A.units < cLine) (h : Q (.bool true) s) : wpAny (model prog w) A (compareOp .NotEq (.ref a) (.ref b)) Q E s :=
  cmp_ofNotEq (PySem.SeqAt.RcNeAt.lists_lengths hl hl' (by simpa using hsz) hu prog w E Q h)
end
end Mine
end
section
local macro_rules | `(tactic| walk_at "Ml") => `(tactic| exact News.isList (by assumption) (by k_mem))
local macro_rules | `(tactic| walk_at "CompSrc") => `(tactic| refine Mine.hold_in ?_)
local macro_rules | `(tactic| k_all) => `(tactic| assumption)
local macro_rules | `(tactic| k_handed) => `(tactic| assumption)
local macro_rules | `(tactic| walk_at "compareOp NotEq ref ref") => `(tactic| (k_here; k_dflt (first | (refine' Mine.ne_lens ?a ?b ?c ?e ?_; (case a => walk_at "Ml"); (case b => walk_at "Ml"); (case c => (simp; done)); (case e => ktr_units)) | (refine' Mine.ne_intsS ?a ?b ?c ?d ?e ?_; (case a => walk_at "Ml"); (case b => assumption); (case c => walk_at "Ml"); (case d => assumption); (case e => ktr_units)))))
local macro_rules | `(tactic| walk_at "compareOp Eq ref ref") => `(tactic| (k_here; k_dflt (refine' Mine.eq_intsS ?a ?b ?c ?d ?e ?_; (case a => walk_at "Ml"); (case b => assumption); (case c => walk_at "Ml"); (case d => assumption); (case e => ktr_units))))
local macro_rules | `(tactic| walk_at "subscriptTail") => `(tactic| (k_here; (with_reducible show wpAny _ _ (subscriptTail (Expr.Name _ _) _ _ _) _ _ _); refine Mine.hold_in ?_))
local macro_rules | `(tactic| walk_at "call builtin:str.join") => `(tactic| (k_here; refine Mine.hold_in ?_))
section
open PySem PySem.W PyProof.Rows PySem.Calls PySem.Spec PyProof.V
namespace Mine
local macro_rules | `(tactic| walk_at "call ref") => `(tactic| (k_here; k_dflt (refine Mine.hold_ref [399, 343, 350, 357, 336] rfl ?_)))
local macro_rules | `(tactic| k_mem) => `(tactic| ((with_reducible show List.Mem _ (cellsLed _ _ _)); assumption))
local macro_rules | `(tactic| walk_at "compareOp IsNot") => `(tactic| (k_here; (with_reducible show wpAny _ _ (compareOp CmpOp.IsNot (Value.int _ _) (Value.int _ _)) _ _ _); refine isnot_small (by assumption) rfl ?_))
local macro_rules | `(tactic| walk_at "call builtin:len") => `(tactic| (k_here; refine' len_list ?hl ?hb ?_; (case hl => walk_at "Ml"); (case hb => (simp only [List.size_toArray, List.length_append, List.length_map, List.length_cons, List.length_nil]; omega))))
local macro_rules | `(tactic| k_all) => `(tactic| exact fun p hp => Nat.ne_of_lt (kst_ltOf (by assumption) p hp))
local macro_rules | `(tactic| walk_at "Mz") => `(tactic| (simp only [List.size_toArray, PySem.sizeLine_eq]; rw [refsTo_len _ (by assumption)]; omega))
structure StB where
  v : Int
  tv : Tok
  k : Int
  t : Tok
  n : Nat
structure StA where
  D : Addr
  ys : List Value
  ms : List Int
  k : Int
  t : Tok
  n : Nat
theorem listr_ok {w : World} {s : Shared} {Q : Value → Shared → Prop} (dk ia : Addr) (vs : List Value) (ns : List Int) (k : Int) (t : Tok) (n : Nat)
   (hia : s.heap.IsList ia vs.toArray) (hne : ia ≠ dk) (hi : IntsAre vs ns) (hns : ns.length ≤ 63) (hk0 : 0 ≤ k) (hk1 : k < 900)
   (ret : ∀ k' t' n' h' tk', k ≤ k' → k' ≤ k + 9 → Stays [dk] s.heap h' → h'.get? dk = some (listO [.ref ia, .int k' t'] n') → Q (.bool true) { s with heap := h', toks := tk' }) :
   CallOk 8 200 w 409 [.ref dk] [(dk, listO [.ref ia, .int k t] n)] s Q := by
  intro p loose mean mg mb dp un gd cn cs a ccd cl outer A₀ base h₀ L m E B F X N T hk hdp hun
  revert X; k_fill; intro X
  refine wpAny_call (enterHC (K := Mine.K w.params) (binds := [("deck", .ref dk)]) B F X N T rfl rfl hk (by k_is) (by k_is) (by ktr_room) (BindsTo.of_eq rfl) rfl (by decide +kernel) ?_ rfl rfl rfl)
  intro g L' h' tk' cells' hg1 hg2 F' N' Y' B' X' T' l1 htk
  have hia' : g.IsList ia vs.toArray := by
    obtain ⟨o, ho, r⟩ := hia
    exact ⟨o, hg1 _ _ ho (by simpa using hne), r⟩
  clear F N B X T hg2
  (replace l1 := allLt_of l1; simp only [AllLt, and_true] at l1)
  k_cells Y'
  simp only [List.cons_append, List.nil_append] at N'
  change Fr g L' h' (fun _ => none) at F'
  rename (_ = Data.cell _) => dC
  rename Obj => oC
  change oC.data = Data.cell (some (.ref dk)) at dC
  clear htk
  try dsimp only
  try k_fold
  refine execs_mid (h₀ := g) (L := L') (fun c : StA => [("items", .ref c.D)]) (fun c : StA => [(c.D, LCg.lst c.ys), (L' + 1, oC), (dk, listO [.ref ia, .int c.k c.t] c.n)]) (fun c : StA => IntsAre c.ys c.ms ∧ c.ys.length ≤ 5 ∧ k ≤ c.k ∧ c.k ≤ k + 6 ∧ L' + 1 ≠ c.D ∧ dk ≠ c.D) ?items ?rest1
  case items =>
    k_steps
    refine hold_out ?_
    with_unfolding_all refine draw_use (by assumption) (by assumption) (by assumption) (by assumption) (by assumption) rfl (by ktr_room) (by ktr_units) (by k_updF) (Fr.lst (by assumption) hia') hne hi hns hk0 (by omega) (by decide) (by decide) ?_
    intro v tv t1 n1 h1 tk1 hv0 hv1 hp1 F1 N1
    clear F' N'
    try dsimp only
    k_steps
    refine hold_out ?_
    with_unfolding_all refine LCg.CompSrc.range (by rfl) (by assumption) (by assumption) (by assumption) (small_one (by decide) (by decide) (by omega) (by omega)) (rangeSize_nat _ _) (by rw [PySem.sizeLine_eq]; omega) ?_
    intro g'
    refine comp_inv (fun c : Int × Tok × Nat => [(L' + 1, oC), (dk, listO [.ref ia, .int c.1 c.2.1] c.2.2)]) (fun i ys c => c.1 = k + 1 + i ∧ ys.length = i ∧ ∃ ms, IntsAre ys ms) (k + 1, t1, n1) ⟨by simp, rfl, [], .nil⟩ ?turn ?fin
    case turn =>
      rintro i x ys ⟨kk, tt, nn⟩ I oI C oC2 D m₂ h tk E' hi2 ⟨tx, rfl⟩ ⟨hkk, hlen, ms, hms⟩ hNs hx F N off hne2
      simp only at hkk N off ⊢
      try dsimp only
      k_steps
      refine hold_out ?_
      have hk8 : 0 ≤ kk := by clear hne2 off hns; omega
      have hk9 : kk < 1000 := by clear hne2 off hns; omega
      have o1 : @Ne Nat dk I ∧ @Ne Nat dk C ∧ @Ne Nat dk D := off (dk, _) (.tail _ (.head _))
      have o2 : @Ne Nat (L' + 1) I ∧ @Ne Nat (L' + 1) C ∧ @Ne Nat (L' + 1) D := off (L' + 1, _) (.head _)
      have l2 : @LT.lt Nat _ dk L' := l1
      with_unfolding_all refine draw_use (by assumption) (by assumption) (by assumption) (by assumption) (by assumption) rfl (by ktr_room) (by ktr_units) (by k_updF) (Fr.lst (by assumption) hia') hne hi hns hk8 hk9 (by decide) (by decide) ?_
      intro v2 tv2 t2 n2 h2 tk2 _ _ _ F2 N2
      refine CompE.mk (kk + 1, t2, n2) F2 N2 (fun _ q => q) (Mine.allC (by assumption) (Mine.allC (by assumption) (List.forall_mem_nil _))) trivial ⟨?_, by simp [hlen], ms ++ [v2], hms.append (.cons _ _ .nil)⟩
      simp only; omega
    case fin =>
      rintro ys ⟨kk, tt, nn⟩ ⟨hkk, hlen, ms, hms⟩
      intro D h tk F N off
      simp only at hkk N off
      exact MidP.mk ⟨D, ys, ms, kk, tt, nn⟩ F N (fun _ q => q) (by walk_at "Mps") ⟨hms, by simp only; omega, by simp only; omega, by simp only; omega, off.1, off.2.1⟩
  case rest1 =>
    rintro ⟨D, ys, ms, kk, tt, nn⟩ u h tk ⟨hms, hyl, hkk1, hkk2, hn1, hn2⟩ htk2 F N
    simp only at hms hyl hkk1 hkk2 hn1 hn2 htk2 F N
    clear F' N' htk2
    have n1 : @Ne Nat (L' + 1) D := hn1
    have n2 : @Ne Nat dk D := hn2
    have n3 : @LT.lt Nat _ dk L' := l1
    refine execs_midT (h₀ := g) (L := L') (fun c : StB => [("items", .ref D), ("way", .int c.v c.tv)]) (fun c : StB => [(D, LCg.lst ys), (L' + 1, oC), (dk, listO [.ref ia, .int c.k c.t] c.n)]) (fun c : StB => 0 ≤ c.v ∧ c.v < 3 ∧ k ≤ c.k ∧ c.k ≤ k + 7) ?way ?rest2
    case way =>
      k_steps
      refine hold_out ?_
      with_unfolding_all refine draw_useP (by assumption) (by assumption) (by assumption) (by assumption) (by assumption) rfl (by ktr_room) (by ktr_units) (by k_updF) (Fr.lst (by assumption) hia') hne hi hns (by omega) (by omega) (by decide) (by decide) ?_
      intro v tv t1 n1 h1 tk1 hv0 hv1 hp1 F1 N1
      try dsimp only
      k_steps
      refine ⟨Nat.succ_pos _, ?_⟩
      exact MidP.mk ⟨v, tv, kk + 1, t1, n1⟩ (by assumption) (by assumption) (fun _ q => q) (by walk_at "Mps") ⟨hv0, hv1, by simp only; omega, by simp only; omega⟩
    case rest2 =>
      clear F N
      rintro ⟨v, tv, kk2, tt2, nn2⟩ u h tk2 ⟨hv0, hv1, hk1', hk2'⟩ hp2 F N
      simp only at hv0 hv1 hk1' hk2' hp2 F N
      refine execs_mid (h₀ := g) (L := L') (fun c : Value => [("items", .ref D), ("way", .int v tv), ("tail", c)]) (fun c : Value => [(D, LCg.lst ys), (L' + 1, oC), (dk, listO [.ref ia, .int kk2 tt2] nn2)]) (fun c : Value => (c = .ref 37 ∧ v ≠ 1) ∨ ∃ t7, c = .int 7 t7 ∧ t7 ≠ 0 ∧ v = 1) ?tail ?rest3
      case tail =>
        have hv : v = 0 ∨ v = 1 ∨ v = 2 := by omega
        rcases hv with rfl | rfl | rfl
        · k_steps
          exact MidP.mk (.ref 37) (by assumption) (by assumption) (by intro p hp; revert p; simp) (by walk_at "Mps") (.inl ⟨rfl, by decide⟩)
        · k_steps
          exact MidP.mk (.int 7 tk2) (by assumption) (by assumption) (by intro p hp; revert p; simp) (by walk_at "Mps") (.inr ⟨_, rfl, Nat.ne_of_gt hp2, by first | trivial | rfl⟩)
        · k_steps
          exact MidP.mk (.ref 37) (by assumption) (by assumption) (by intro p hp; revert p; simp) (by walk_at "Mps") (.inl ⟨rfl, by decide⟩)
      case rest3 =>
        clear F N
        rintro tl u h tk3 htl _ F N
        refine execs_mid (h₀ := g) (L := L') (fun cs : List Cell => [("items", .ref D), ("way", .int v tv), ("tail", tl), ("found", hdV cs tl)]) (fun cs : List Cell => (D, LCg.lst ys) :: (L' + 1, oC) :: (dk, listO [.ref ia, .int kk2 tt2] nn2) :: cellsLed w cs tl)
          (fun cs : List Cell => ((cellsLed w cs tl).map (·.1)).Nodup ∧ IntsAre (cs.map (·.v)) ms ∧ ∀ p ∈ cellsLed w cs tl, @Ne Nat p.1 D ∧ @Ne Nat p.1 (L' + 1) ∧ @Ne Nat p.1 dk) ?found ?rest4
        case found =>
          have fin : ∀ (cells : List Cell) (h' : Heap), (∀ p ∈ cellsLed w cells tl, h'.get? p.1 = some p.2 ∧ h.get? p.1 = none) → ∀ p ∈ cellsLed w cells tl, @Ne Nat p.1 D ∧ @Ne Nat p.1 (L' + 1) ∧ @Ne Nat p.1 dk := by
            intro cells h' hc p hp
            have q := (hc p hp).2
            refine ⟨fun e => ?_, fun e => ?_, fun e => ?_⟩
            · rw [show p.1 = D from e, (N _ (.head _)).1] at q; cases q
            · rw [show p.1 = L' + 1 from e, (N _ (.tail _ (.head _))).1] at q; cases q
            · rw [show p.1 = dk from e, (N _ (.tail _ (.tail _ (.head _)))).1] at q; cases q
          rcases htl with ⟨rfl, hv⟩ | ⟨t7, rfl, _, rfl⟩
          · k_steps
            · exact absurd (by assumption) hv
            · refine hold_out ?_
              refine CallOk.use (D := 3) (U := 60) (ks := []) (list_of_ok1 D ys ms (News.isList N (.head _)) hms (by omega) ?_) (by assumption) (by assumption) (by assumption) (News.sub N (List.forall_mem_nil _)) (by assumption) rfl (by ktr_room) (by ktr_units)
              intro cs h' tk' S hc hnd hiv
              obtain ⟨F1, N1⟩ := call_pure F N S
              have N2 := News.app N1 (News.adds F hc)
              have ap := fin cs h' hc
              clear F N N1 S
              k_steps
              exact MidP.mk cs (by assumption) (by assumption) (fun p hp => hp) (by walk_at "Mps") ⟨hnd, hiv, ap⟩
          · k_steps
            refine hold_out ?_
            refine CallOk.use (D := 3) (U := 60) (ks := []) (list_of_ok D ys ms (.int 7 t7) (News.isList N (.head _)) hms (by omega) ?_) (by assumption) (by assumption) (by assumption) (News.sub N (List.forall_mem_nil _)) (by assumption) rfl (by ktr_room) (by ktr_units)
            intro cs h' tk' S hc hnd hiv
            obtain ⟨F1, N1⟩ := call_pure F N S
            have N2 := News.app N1 (News.adds F hc)
            have ap := fin cs h' hc
            clear F N N1 S
            k_steps
            exact MidP.mk cs (by assumption) (by assumption) (fun p hp => hp) (by walk_at "Mps") ⟨hnd, hiv, ap⟩
        case rest4 =>
          clear F N
          rintro cs u h tk4 ⟨hnd, hiv, ap⟩ _ F N
          refine execs_mid (h₀ := g) (L := L') (fun ca : Addr => [("items", .ref D), ("way", .int v tv), ("tail", tl), ("found", hdV cs tl), ("cells", .ref ca), ("here", nxA cs tl 0)]) (fun ca : Addr => (ca, W.listOf #[] 0) :: (D, LCg.lst ys) :: (L' + 1, oC) :: (dk, listO [.ref ia, .int kk2 tt2] nn2) :: cellsLed w cs tl)
            (fun ca : Addr => @LT.lt Nat _ D ca ∧ @LT.lt Nat _ (L' + 1) ca ∧ @LT.lt Nat _ dk ca ∧ AllLt ca (cellsLed w cs tl)) ?pair ?rest5
          case pair =>
            k_steps
            rename_i ca _ lca _ _ _ _ _ _ F9 N9
            exact MidP.mk ca F9 N9 (fun p hp => .tail _ hp) (by walk_at "Mps") (allLt_of lca)
          case rest5 =>
            clear F N
            rintro ca u h tk5 ⟨la1, la2, la3, la4⟩ _ F N
            have hcl : cs.length ≤ 5 := by
              have e1 := hiv.length
              have e2 := hms.length
              simp only [List.length_map] at e1
              omega
            have khtl : handedIn tl = true := by rcases htl with ⟨rfl, _⟩ | ⟨t7, rfl, _, _⟩ <;> rfl
            refine execs_mid (h₀ := g) (L := L') (fun _ : Unit => [("items", .ref D), ("way", .int v tv), ("tail", tl), ("found", hdV cs tl), ("cells", .ref ca), ("here", tl)])
              (fun _ : Unit => (ca, W.listOf (refsTo cs cs.length).toArray cs.length) :: (D, LCg.lst ys) :: (L' + 1, oC) :: (dk, listO [.ref ia, .int kk2 tt2] nn2) :: cellsLed w cs tl) (fun _ : Unit => True) ?loop ?rest6
            case loop =>
              with_unfolding_all refine while_inv (L := L') (fun i => (ca, W.listOf (refsTo cs i).toArray i) :: (D, LCg.lst ys) :: (L' + 1, oC) :: (dk, listO [.ref ia, .int kk2 tt2] nn2) :: cellsLed w cs tl) (fun i => [("items", .ref D), ("way", .int v tv), ("tail", tl), ("found", hdV cs tl), ("cells", .ref ca), ("here", nxA cs tl i)]) (fun i => i ≤ cs.length) (fun i => cs.length - i) 0 (by assumption) (by assumption) ?ps0 ?r0 ?turn
              (case ps0 => walk_at "Mps")
              (case r0 => exact Nat.zero_le _)
              rintro i u h tk hiM F N
              by_cases hlt : i < cs.length
              · obtain ⟨e1, m1, m2⟩ := cells_at w tl cs i hlt
                have hh2 : handedIn (nxA cs tl (i + 1)) = true := by
                  rcases Nat.lt_or_eq_of_le (Nat.succ_le_of_lt hlt) with q | q
                  · rw [(cells_at w tl cs (i + 1) q).1]; rfl
                  · rw [show i + 1 = cs.length from q, nxA_end]; exact khtl
                rw [e1] at F
                k_steps
                exact WhileE.mk (i + 1) (by assumption) (by assumption) (by rw [refsTo_succ cs hlt, ← List.push_toArray]; exact fun _ q => q) (by walk_at "Mps") hlt (by omega)
              · have hiM' : i = cs.length := by omega
                subst hiM'
                rw [nxA_end] at F
                rcases htl with ⟨rfl, hv⟩ | ⟨t7, rfl, _, rfl⟩
                · k_steps
                  exact MidP.mk () (by assumption) (by assumption) (fun _ q => q) (by walk_at "Mps") trivial
                · k_steps
                  exact MidP.mk () (by assumption) (by assumption) (fun _ q => q) (by walk_at "Mps") trivial
            case rest6 =>
              clear F N
              rintro _ u h tk6 _ _ F N
              refine execs_mid (h₀ := g) (L := L') (fun _ : Unit => [("items", .ref D), ("way", .int v tv), ("tail", tl), ("found", hdV cs tl), ("cells", .ref ca)])
                (fun _ : Unit => (ca, W.listOf (refsTo cs cs.length).toArray cs.length) :: (D, LCg.lst ys) :: (L' + 1, oC) :: (dk, listO [.ref ia, .int kk2 tt2] nn2) :: cellsLed w cs tl) (fun _ : Unit => True) ?test1 ?rest7
              case test1 =>
                rcases htl with ⟨rfl, hv⟩ | ⟨t7, rfl, ht7, rfl⟩
                · k_steps
                  refine hold_out ?_
                  with_unfolding_all refine LCg.CompSrc.ledger (by rfl) (by assumption) (by assumption) (.head _) (by rw [List.size_toArray, refsTo_len _ (Nat.le_refl _), PySem.sizeLine_eq]; omega) ?_
                  intro g'
                  refine comp_inv (fun _ : Unit => (ca, W.listOf (refsTo cs cs.length).toArray cs.length) :: (D, LCg.lst ys) :: (L' + 1, oC) :: (dk, listO [.ref ia, .int kk2 tt2] nn2) :: cellsLed w cs (.ref 37)) (fun i ys _ => ys = (cs.take i).map (·.v)) () rfl ?turnB ?finB
                  case turnB =>
                    rintro i x ys _ I oI C oC2 D2 m₂ h tk E' hi2 hx2 hys hNs hx F N off hne2
                    obtain ⟨hl2, rfl⟩ := refsTo_get hx2
                    obtain ⟨e1, m1, m2⟩ := cells_at w (.ref 37) cs i hl2
                    have hh2 := ints_handed hiv _ (cA_mem hl2)
                    k_steps
                    exact CompE.mk () (by assumption) (by assumption) (fun _ q => q) off (.inr ⟨_, .head _, rfl, _, rfl⟩) (by rw [vals_succ cs hl2, hys])
                  case finB =>
                    rintro ys2 _ hys
                    intro D2 h2 tk2 F2 N2 off2
                    rw [List.size_toArray, refsTo_len _ (Nat.le_refl _), List.take_length] at hys
                    subst hys
                    try dsimp only
                    k_steps
                    exact MidP.mk () (by assumption) (by assumption) (fun _ q => .tail _ q) (by walk_at "Mps") trivial
                · k_steps
                  refine hold_out ?_
                  with_unfolding_all refine LCg.CompSrc.ledger (by rfl) (by assumption) (by assumption) (.head _) (by rw [List.size_toArray, refsTo_len _ (Nat.le_refl _), PySem.sizeLine_eq]; omega) ?_
                  intro g'
                  refine comp_inv (fun _ : Unit => (ca, W.listOf (refsTo cs cs.length).toArray cs.length) :: (D, LCg.lst ys) :: (L' + 1, oC) :: (dk, listO [.ref ia, .int kk2 tt2] nn2) :: cellsLed w cs (.int 7 t7)) (fun i ys _ => ys = (cs.take i).map (·.v)) () rfl ?turnC ?finC
                  case turnC =>
                    rintro i x ys _ I oI C oC2 D2 m₂ h tk E' hi2 hx2 hys hNs hx F N off hne2
                    obtain ⟨hl2, rfl⟩ := refsTo_get hx2
                    obtain ⟨e1, m1, m2⟩ := cells_at w (.int 7 t7) cs i hl2
                    have hh2 := ints_handed hiv _ (cA_mem hl2)
                    k_steps
                    exact CompE.mk () (by assumption) (by assumption) (fun _ q => q) off (.inr ⟨_, .head _, rfl, _, rfl⟩) (by rw [vals_succ cs hl2, hys])
                  case finC =>
                    rintro ys2 _ hys
                    intro D2 h2 tk2 F2 N2 off2
                    rw [List.size_toArray, refsTo_len _ (Nat.le_refl _), List.take_length] at hys
                    subst hys
                    try dsimp only
                    k_steps
                    exact MidP.mk () (by assumption) (by assumption) (fun _ q => .tail _ q) (by walk_at "Mps") trivial
              case rest7 =>
                clear F N
                rintro _ u h tk7 _ _ F N
                have hvals : IntsAre (valsTo (cA cs) cs.length) ms := by rw [valsTo_cA]; exact hiv
                by_cases hw : v = 2 ∧ 0 < cs.length
                · obtain ⟨rfl, hcs⟩ := hw
                  rcases htl with ⟨rfl, _⟩ | ⟨_, _, _, q⟩
                  · obtain ⟨pre, c, hpc⟩ : ∃ (pre : List Cell) (c : Cell), cs = pre ++ [c] := ⟨cs.dropLast, cs.getLast (List.ne_nil_of_length_pos hcs), (List.dropLast_concat_getLast _).symm⟩
                    have hled := cellsLed_snoc w c (.ref 37) pre
                    rw [← hpc] at hled
                    have hrefs : refsTo cs cs.length = pre.map (fun x : Cell => Value.ref x.a) ++ [Value.ref c.a] := by unfold refsTo; rw [List.take_length, hpc, List.map_append]; rfl
                    have N2 : News g L' h ((c.d, pairD w c.v (.ref 37) c.t1 c.t2) :: (c.a, instObj 148 c.d) :: (ca, W.listOf (pre.map (fun x : Cell => Value.ref x.a) ++ [Value.ref c.a]).toArray cs.length) :: (D, LCg.lst ys) :: (L' + 1, oC) :: (dk, listO [.ref ia, .int kk2 tt2] nn2) :: cellsLed w pre (.ref c.a)) := by
                      refine News.sub N ?_
                      rw [hled, hrefs]
                      exact Mine.allC (.tail _ (.tail _ (.tail _ (.tail _ (List.mem_append_right _ (.tail _ (.head _))))))) (Mine.allC (.tail _ (.tail _ (.tail _ (.tail _ (List.mem_append_right _ (.head _)))))) (Mine.allC (.head _) (Mine.allC (.tail _ (.head _)) (Mine.allC (.tail _ (.tail _ (.head _))) (Mine.allC (.tail _ (.tail _ (.tail _ (.head _)))) (fun p h => .tail _ (.tail _ (.tail _ (.tail _ (List.mem_append_left _ h))))))))))
                    have mc : (c.d, pairD w c.v (.ref 37) c.t1 c.t2) ∈ cellsLed w cs (.ref 37) := by rw [hled]; exact List.mem_append_right _ (.tail _ (.head _))
                    have ma : (c.a, instObj 148 c.d) ∈ cellsLed w cs (.ref 37) := by rw [hled]; exact List.mem_append_right _ (.head _)
                    have mp : ∀ p ∈ cellsLed w pre (.ref c.a), p ∈ cellsLed w cs (.ref 37) := fun p hp => by rw [hled]; exact List.mem_append_left _ hp
                    obtain ⟨ad1, ad2, ad3⟩ := ap _ mc
                    obtain ⟨aa1, aa2, aa3⟩ := ap _ ma
                    have ad4 : @LT.lt Nat _ c.d ca := kst_ltOf la4 _ mc
                    have aa4 : @LT.lt Nat _ c.a ca := kst_ltOf la4 _ ma
                    have hnd2 := hnd
                    rw [hled] at hnd2
                    simp only [List.map_append, List.map_cons, List.map_nil, List.nodup_append, List.nodup_cons, List.mem_cons, List.not_mem_nil, or_false, not_false_eq_true, List.nodup_nil, and_true] at hnd2
                    have aad : @Ne Nat c.a c.d := hnd2.2.1
                    have apre : ∀ p ∈ cellsLed w pre (.ref c.a), p.1 ≠ c.d := fun p hp => hnd2.2.2 p.1 (List.mem_map_of_mem hp) c.d (.inr rfl)
                    have adk : ∀ p ∈ cellsLed w pre (.ref c.a), p.1 ≠ dk := fun p hp => (ap p (mp p hp)).2.2
                    have lpre : AllLt ca (cellsLed w pre (.ref c.a)) := allLt_of fun p hp => kst_ltOf la4 p (mp p hp)
                    have hlen : cs.length = pre.length + 1 := by rw [hpc]; simp
                    have hf0 := (cells_at w (.ref 37) cs 0 hcs).1
                    rw [show nxA cs (.ref 37) 0 = hdV cs (.ref 37) from rfl] at hf0
                    rw [hf0] at F
                    clear N
                    k_steps
                    refine hold_out ?_
                    with_unfolding_all refine draw_use (by assumption) (by assumption) (by assumption) (by assumption) (by assumption) rfl (by ktr_room) (by ktr_units) (by k_updF) (Fr.lst (by assumption) hia') hne hi hns (by omega) (by omega) (by simp only [List.size_toArray, List.length_append, List.length_map, List.length_cons, List.length_nil]; omega) (by simp only [List.size_toArray, List.length_append, List.length_map, List.length_cons, List.length_nil]; omega) ?_
                    intro v2 tv2 t2 n2' h2 tk2' hv20 hv21 _ F3 N3
                    simp only [List.size_toArray, List.length_append, List.length_map, List.length_cons, List.length_nil] at hv21
                    try dsimp only
                    k_steps
                    have hv2 : v2.toNat < cs.length := by omega
                    have hx : (pre.map (fun x : Cell => Value.ref x.a) ++ [Value.ref c.a])[v2.toNat]? = some (.ref (cA cs v2.toNat).a) := by
                      rw [← hrefs]
                      unfold refsTo cA
                      rw [List.take_length, List.getElem?_map, List.getD_eq_getElem?_getD, List.getElem?_eq_getElem hv2]
                      rfl
                    refine hold_out ?_
                    refine sub_pos (News.isList (by assumption) (by k_mem)) hv20 (by omega) hx ?_
                    k_steps
                    refine hold_out ?_
                    refine sub_last (News.isList (by assumption) (by k_mem)) (by simp; omega) ?_
                    k_steps
                    rename News _ _ _ _ => N4
                    rename Fr _ _ _ _ => F4
                    have hled2 := cellsLed_snoc w c (.ref (cA cs v2.toNat).a) pre
                    rw [← hpc] at hled2
                    have R4 : News g L' _ (cellsLed w cs (.ref (cA cs v2.toNat).a)) := News.sub N4 (by
                      intro p hp
                      rw [hled2] at hp
                      simp only [List.mem_cons, List.mem_append, List.not_mem_nil, or_false] at hp ⊢
                      rcases hp with h | h | h <;> simp [h])
                    have P4 := path_ring hv2 (fun p hp => (R4 p hp).1) hiv (2 * ((cs.length - v2.toNat) * cs.length))
                    have eA : [nxR cs v2.toNat 0] = [Value.ref (cA cs 0).a] := by unfold nxR idxR; rw [if_pos hcs]
                    have hend : (true = false ∧ (nxR cs v2.toNat (2 * ((cs.length - v2.toNat) * cs.length)) = .ref 37 ∨ ∃ t, nxR cs v2.toNat (2 * ((cs.length - v2.toNat) * cs.length)) = .int 7 t) ∧ ∀ k, 0 < k → 2 * k ≤ (2 * ((cs.length - v2.toNat) * cs.length)) → nxR cs v2.toNat (2 * k) ≠ nxR cs v2.toNat k) ∨ (true = true ∧ ∃ K, 0 < K ∧ (2 * ((cs.length - v2.toNat) * cs.length)) = 2 * K ∧ nxR cs v2.toNat (2 * ((cs.length - v2.toNat) * cs.length)) = nxR cs v2.toNat K) := .inr ⟨rfl, _, Nat.mul_pos (by omega) hcs, rfl, ring_end hv2⟩
                    clear R4
                    refine hold_out ?_
                    refine CallOk.use (D := 5) (U := 100) (ks := []) (CallOk.args eA (items_ok _ _ _ true P4 (ring_small hcl) hend ?_ ?_)) (by assumption) (by assumption) (by assumption) (News.sub N4 (List.forall_mem_nil _)) (by assumption) rfl (by ktr_room) (by ktr_units)
                    · intro _ h5 tk5' S5
                      obtain ⟨F5, N5⟩ := call_pure F4 N4 S5
                      have P5 := P4.stays S5 (fun _ _ => ⟨List.not_mem_nil, List.not_mem_nil⟩) (fun _ _ => List.not_mem_nil)
                      clear F4 N4 S5 P4
                      try dsimp only
                      k_steps
                      refine hold_out ?_
                      refine CallOk.use (D := 5) (U := 100) (ks := []) (CallOk.args eA (proper_ok _ _ _ true P5 (ring_small hcl) hend ?_)) (by assumption) (by assumption) (by assumption) (News.sub N5 (List.forall_mem_nil _)) (by assumption) rfl (by ktr_room) (by ktr_units)
                      intro h6 tk6' S6
                      simp only [Bool.not_true, Bool.false_and]
                      obtain ⟨F6, N6⟩ := call_pure F5 N5 S6
                      have P6 := P5.stays S6 (fun _ _ => ⟨List.not_mem_nil, List.not_mem_nil⟩) (fun _ _ => List.not_mem_nil)
                      clear F5 N5 S6 P5
                      try dsimp only
                      k_steps
                      refine hold_out ?_
                      refine CallOk.use (D := 3) (U := 60) (ks := []) (CallOk.args eA (split_ok _ _ _ true P6 (ring_small hcl) hend ?_)) (by assumption) (by assumption) (by assumption) (News.sub N6 (List.forall_mem_nil _)) (by assumption) rfl (by ktr_room) (by ktr_units)
                      intro Tt things i n h7 tk7' S7 _ hT hth nT nth hne'
                      obtain ⟨F7, N7⟩ := call_pure F6 N6 S7
                      have N8 := News.add F6 (News.add F6 N7 hth nth) hT nT
                      simp only [if_true] at N8
                      clear F6 N6 S7 P6 N7 hT hth
                      try dsimp only
                      k_steps
                      exact ret (kk2 + 1) t2 n2' _ _ (by omega) (by omega) (hg1.done F7) (News.at N8 (by k_mem))
                    · intro q; cases q
                  · cases q
                · refine execs_mid (h₀ := g) (L := L') (fun _ : Unit => [("items", .ref D), ("way", .int v tv), ("tail", tl), ("found", hdV cs tl)])
                    (fun _ : Unit => (D, LCg.lst ys) :: (L' + 1, oC) :: (dk, listO [.ref ia, .int kk2 tt2] nn2) :: cellsLed w cs tl) (fun _ : Unit => True) ?test2 ?rest8
                  case test2 =>
                    have hv : v = 0 ∨ v = 1 ∨ v = 2 := by omega
                    rcases hv with rfl | rfl | rfl
                    · k_steps
                      exact MidP.mk () (by assumption) (by assumption) (fun _ q => .tail _ q) (by walk_at "Mps") trivial
                    · k_steps
                      exact MidP.mk () (by assumption) (by assumption) (fun _ q => .tail _ q) (by walk_at "Mps") trivial
                    · have hcs : cs = [] := List.eq_nil_of_length_eq_zero (by omega)
                      subst hcs
                      have hE1 : IntsAre (refsTo ([] : List Cell) ([] : List Cell).length) [] := .nil
                      have hE2 : IntsAre [] [] := .nil
                      k_steps
                      exact MidP.mk () (by assumption) (by assumption) (fun _ q => .tail _ (.tail _ q)) (by walk_at "Mps") trivial
                  case rest8 =>
                    clear F N
                    rintro _ u h tk8 _ _ F N
                    rcases htl with ⟨rfl, hv1'⟩ | ⟨t7, rfl, ht7, rfl⟩
                    · obtain ⟨o37, e37, c37⟩ : ∃ o, g.get? 37 = some o ∧ o.cls ≠ .type "tuple" := ⟨_, X' 37 _ (by k_is), by intro z; cases z⟩
                      have kn : Known g (.ref 37) := .inl ⟨37, o37, rfl, e37, c37⟩
                      have hv : v = 0 ∨ v = 2 := by omega
                      have pth : ∀ h9 : Heap, Known h9 (.ref 37) → (∀ p ∈ cellsLed w cs (.ref 37), h9.get? p.1 = some p.2) → Path w h9 (nxA cs (.ref 37)) (cA cs) cs.length := fun h9 k9 H => path_of H hiv k9 rfl
                      have hend : (false = false ∧ (nxA cs (.ref 37) cs.length = .ref 37 ∨ ∃ t, nxA cs (.ref 37) cs.length = .int 7 t) ∧ ∀ k, 0 < k → 2 * k ≤ cs.length → nxA cs (.ref 37) (2 * k) ≠ nxA cs (.ref 37) k) ∨ (false = true ∧ ∃ K, 0 < K ∧ cs.length = 2 * K ∧ nxA cs (.ref 37) cs.length = nxA cs (.ref 37) K) := .inl ⟨rfl, .inl (nxA_end _ _), chain_apart hnd (by
                        intro i hi e
                        have z := (N _ (List.mem_append_right [_, _, _] (cells_at w (.ref 37) cs i hi).2.1)).2.2
                        rw [← Value.ref.inj e, e37] at z
                        cases z)⟩
                      have eA : [nxA cs (.ref 37) 0] = [hdV cs (.ref 37)] := rfl
                      have P4 := pth h (kn.up F) fun p hp => (N p (by repeat (first | exact hp | refine List.Mem.tail _ ?_))).1
                      try dsimp only
                      k_steps
                      refine hold_out ?_
                      refine CallOk.use (D := 3) (U := 60) (ks := []) (CallOk.args eA (split_ok _ _ _ false P4 (by omega) hend ?_)) (by assumption) (by assumption) (by assumption) (News.sub N (List.forall_mem_nil _)) (by assumption) rfl (by ktr_room) (by ktr_units)
                      intro Tt things i n h5 tk5' S5 hi hT hth nT nth hne'
                      obtain ⟨F5, N5⟩ := call_pure F N S5
                      have N5' := News.add F (News.add F N5 hth nth) hT nT
                      have hi' := hi rfl
                      subst hi'
                      simp only [Bool.false_eq_true, if_false, nxA_end] at N5'
                      clear F N S5 P4 N5 hT hth nT nth hi
                      try dsimp only
                      k_steps
                      rcases hv with rfl | rfl
                      all_goals (
                        rename News _ _ _ _ => N6
                        rename Fr _ _ _ _ => F6
                        have P6 := pth _ (kn.up F6) fun p hp => (N6 p (by repeat (first | exact hp | refine List.Mem.tail _ ?_))).1
                        refine hold_out ?_
                        refine CallOk.use (D := 5) (U := 100) (ks := []) (CallOk.args eA (proper_ok _ _ _ false P6 (by omega) hend ?_)) (by assumption) (by assumption) (by assumption) (News.sub N6 (List.forall_mem_nil _)) (by assumption) rfl (by ktr_room) (by ktr_units)
                        intro h7 tk7' S7
                        rw [show (!false && decide (nxA cs (.ref 37) cs.length = .ref 37)) = true by rw [nxA_end]; rfl]
                        obtain ⟨F7, N7⟩ := call_pure F6 N6 S7
                        have P7 := P6.stays S7 (fun _ _ => ⟨List.not_mem_nil, List.not_mem_nil⟩) (fun _ _ => List.not_mem_nil)
                        clear F6 N6 S7 P6
                        try dsimp only
                        k_steps
                        refine hold_out ?_
                        refine CallOk.use (D := 5) (U := 100) (ks := []) (CallOk.args eA (items_ok _ _ _ false P7 (by omega) hend ?_ ?_)) (by assumption) (by assumption) (by assumption) (News.sub N7 (List.forall_mem_nil _)) (by assumption) rfl (by ktr_room) (by ktr_units)
                        · intro q; rcases q with q | q; (cases q); exact absurd (nxA_end _ _) q
                        intro _ _ things2 n2 h8 tk8' S8 hth nth
                        obtain ⟨F8, N8⟩ := call_pure F7 N7 S8
                        have N9 := News.add F7 N8 hth nth
                        clear F7 N7 S8 N8 P7 hth nth
                        try dsimp only
                        k_steps
                        exact ret kk2 tt2 nn2 _ _ (by omega) (by omega) (hg1.done (by assumption)) (News.at (by assumption) (by k_mem)))
                    · have kn : Known g (.int 7 t7) := .inr ⟨_, _, rfl⟩
                      have pth : ∀ h9 : Heap, Known h9 (.int 7 t7) → (∀ p ∈ cellsLed w cs (.int 7 t7), h9.get? p.1 = some p.2) → Path w h9 (nxA cs (.int 7 t7)) (cA cs) cs.length := fun h9 k9 H => path_of H hiv k9 rfl
                      have hend : (false = false ∧ (nxA cs (.int 7 t7) cs.length = .ref 37 ∨ ∃ t, nxA cs (.int 7 t7) cs.length = .int 7 t) ∧ ∀ k, 0 < k → 2 * k ≤ cs.length → nxA cs (.int 7 t7) (2 * k) ≠ nxA cs (.int 7 t7) k) ∨ (false = true ∧ ∃ K, 0 < K ∧ cs.length = 2 * K ∧ nxA cs (.int 7 t7) cs.length = nxA cs (.int 7 t7) K) := .inl ⟨rfl, .inr ⟨t7, nxA_end _ _⟩, chain_apart hnd (by
                        intro i hi e
                        cases e)⟩
                      have eA : [nxA cs (.int 7 t7) 0] = [hdV cs (.int 7 t7)] := rfl
                      have P4 := pth h (kn.up F) fun p hp => (N p (by repeat (first | exact hp | refine List.Mem.tail _ ?_))).1
                      try dsimp only
                      k_steps
                      refine hold_out ?_
                      refine CallOk.use (D := 3) (U := 60) (ks := []) (CallOk.args eA (split_ok _ _ _ false P4 (by omega) hend ?_)) (by assumption) (by assumption) (by assumption) (News.sub N (List.forall_mem_nil _)) (by assumption) rfl (by ktr_room) (by ktr_units)
                      intro Tt things i n h5 tk5' S5 hi hT hth nT nth hne'
                      obtain ⟨F5, N5⟩ := call_pure F N S5
                      have N5' := News.add F (News.add F N5 hth nth) hT nT
                      have hi' := hi rfl
                      subst hi'
                      simp only [Bool.false_eq_true, if_false, nxA_end] at N5'
                      clear F N S5 P4 N5 hT hth nT nth hi
                      try dsimp only
                      k_steps
                      rename News _ _ _ _ => N6
                      rename Fr _ _ _ _ => F6
                      have P6 := pth _ (kn.up F6) fun p hp => (N6 p (by repeat (first | exact hp | refine List.Mem.tail _ ?_))).1
                      refine hold_out ?_
                      refine CallOk.use (D := 5) (U := 100) (ks := []) (CallOk.args eA (proper_ok _ _ _ false P6 (by omega) hend ?_)) (by assumption) (by assumption) (by assumption) (News.sub N6 (List.forall_mem_nil _)) (by assumption) rfl (by ktr_room) (by ktr_units)
                      intro h7 tk7' S7
                      rw [show (!false && decide (nxA cs (.int 7 t7) cs.length = .ref 37)) = false by rw [nxA_end]; rfl]
                      obtain ⟨F7, N7⟩ := call_pure F6 N6 S7
                      have P7 := P6.stays S7 (fun _ _ => ⟨List.not_mem_nil, List.not_mem_nil⟩) (fun _ _ => List.not_mem_nil)
                      clear F6 N6 S7 P6
                      try dsimp only
                      k_steps
                      refine hold_out ?_
                      refine CallOk.use (D := 5) (U := 100) (ks := []) (CallOk.args eA (items_ok _ _ _ false P7 (by omega) hend ?_ ?_)) (by assumption) (by assumption) (by assumption) (News.sub N7 (List.forall_mem_nil _)) (by assumption) rfl (by ktr_room) (by ktr_units)
                      · intro _ h8 tk8' S8
                        obtain ⟨F8, N8⟩ := call_pure F7 N7 S8
                        clear F7 N7 S8 P7
                        try dsimp only
                        k_steps
                        exact ret kk2 tt2 nn2 _ _ (by omega) (by omega) (hg1.done (by assumption)) (News.at (by assumption) (by k_mem))
                      · intro _ q; rw [nxA_end] at q; cases q
end Mine
end
section
open PySem PySem.W PyProof.Rows PySem.Calls PySem.Spec PyProof.V
namespace Mine
section
variable {prog : Program} {w : World} {A : Around} {h₀ : Heap} {L : Addr} {m : Str → Option Value} {env : Env} {ct elt : Expr} {x : Str} {scope : Scope} {cl : List (Str × Addr)} {s : Shared} {S : List (Addr × Obj) → Prop} {P : Nat → Value → Prop} {Fin : List Value → List (Addr × Obj) → Prop}
theorem comp_invT {σ : Type} (Led : σ → List (Addr × Obj)) (R : Nat → List Value → σ → Prop) (c₀ : σ) {n : Nat} (hr : R 0 [] c₀)
    (turn : ∀ i v ys c I oI C oC D m₂ h tk (E' : Value → Shared → Prop), i < n → P i v → R i ys c → LCg.NsObj oC m₂ → m₂ x = some v → Fr h₀ L h m → News h₀ L h ((I, oI) :: (C, oC) :: (D, LCg.lst ys) :: Led c) → (∀ p ∈ Led c, p.1 ≠ I ∧ p.1 ≠ C ∧ p.1 ≠ D) → ((@Ne Nat I C) ∧ (@Ne Nat I D) ∧ (@Ne Nat C D)) →
      wpAny (model prog w) A (isTrue ct (compEnvC scope cl C env) (eval ct (compEnvC scope cl C env))) (fun ok s' => if ok = true then
        wpAny (model prog w) A (eval elt (compEnvC scope cl C env)) (CompE h₀ L m Led S (fun y c' => R (i + 1) (ys ++ [y]) c') I oI C oC D (LCg.lst ys) { s with heap := h, toks := tk }) E' s'
        else CompE h₀ L m Led S (fun _ c' => R (i + 1) ys c') I oI C oC D (LCg.lst ys) { s with heap := h, toks := tk } Value.none s') E' { s with heap := h, toks := tk })
    (fin : ∀ ys c, R n ys c → Fin ys (Led c)) : LCt.CompRestT prog w A h₀ L m env ct elt x scope cl s S P Fin n 0 [] (Led c₀) := by
  have key : ∀ (j i : Nat) (ys : List Value) (c : σ), i + j = n → R i ys c → LCt.CompRestT prog w A h₀ L m env ct elt x scope cl s S P Fin j i ys (Led c) := by
    intro j
    induction j with
    | zero =>
      intro i ys c hi hy
      have e : i = n := by omega
      subst e
      exact LCt.CompRestT.zero (fin ys c hy)
    | succ j ih =>
      intro i ys c hi hy
      refine LCt.CompRestT.succ ?_
      intro v I oI C oC D m₂ h tk E' hv hC hx F N off ne
      refine wpAny_mono (turn i v ys c I oI C oC D m₂ h tk E' (by omega) hv hy hC hx F N (LCg.Off3.mem off) ne) (fun b s₂ hq => ?_) fun _ _ e => e
      cases b with
      | true =>
        simp only [if_true] at hq ⊢
        refine wpAny_mono hq (fun y s₃ hq => ?_) fun _ _ e => e
        obtain ⟨c', h', tk', e, F', N', off', hS, hr'⟩ := hq
        exact ⟨h', tk', Led c', e, F', N', LCg.Off3.of off', hS, ih (i + 1) _ c' (by omega) hr'⟩
      | false =>
        simp only [Bool.false_eq_true, if_false] at hq ⊢
        obtain ⟨c', h', tk', e, F', N', off', hS, hr'⟩ := hq
        exact ⟨h', tk', Led c', e, F', N', LCg.Off3.of off', hS, ih (i + 1) _ c' (by omega) hr'⟩
  exact key n 0 [] c₀ (by omega) hr
end
/-- what a call puts back -/
theorem Stays.back {ks : List (Addr × Obj)} {h h' : Heap} (S : Stays (ks.map (·.1)) h h') (a : ∀ p ∈ ks, h.get? p.1 = some p.2) (b : ∀ p ∈ ks, h'.get? p.1 = some p.2) : Stays [] h h' := by
  intro x o e _
  by_cases q : x ∈ ks.map (·.1)
  · obtain ⟨p, hp, rfl⟩ := List.mem_map.mp q
    rw [a p hp] at e
    rw [b p hp, e]
  · exact S x o e q
theorem Stays.back2 {js : List Addr} {ks : List (Addr × Obj)} {h h' : Heap} (S : Stays (ks.map (·.1)) h h') (a : ∀ p ∈ ks, h.get? p.1 = some p.2) (b : ∀ p ∈ ks, p.1 ∈ js ∨ h'.get? p.1 = some p.2) : Stays js h h' := by
  intro x o e n
  by_cases q : x ∈ ks.map (·.1)
  · obtain ⟨p, hp, rfl⟩ := List.mem_map.mp q
    rw [a p hp] at e
    rcases b p hp with z | z
    · exact absurd z n
    · rw [z, e]
  · exact S x o e q
theorem notin4 {x a b c d : Nat} (h1 : a < x) (h2 : b < x) (h3 : c < x) (h4 : d < x) : x ∉ [a, b, c, d] := by simp; omega
abbrev tabD (w : World) (rl bd : Addr) (t1 t2 : Tok) : Obj := dictOf [⟨PyData.keyHash w.params "rows", .str "rows" t1, .ref rl⟩, ⟨PyData.keyHash w.params "by_text", .str "by_text" t2, .ref bd⟩] 2
abbrev symD (w : World) (num : Int) (tn : Tok) (tx : Str) (tt t1 t2 : Tok) : Obj := dictOf [⟨PyData.keyHash w.params "number", .str "number" t1, .int num tn⟩, ⟨PyData.keyHash w.params "text", .str "text" t2, .str tx tt⟩] 2
end Mine
end
section
open PySem PySem.W PyProof.Rows PySem.Calls PySem.Spec PyProof.V
namespace Mine
structure Sy where
  a : Addr
  d : Addr
  num : Int
  tn : Tok
  tx : Str
  tt : Tok
  t1 : Tok
  t2 : Tok
def symsLed (w : World) : List Sy → List (Addr × Obj)
  | [] => []
  | y :: r => (y.a, instObj 64 y.d) :: (y.d, symD w y.num y.tn y.tx y.tt y.t1 y.t2) :: symsLed w r
theorem symsLed_app (w : World) (y : Sy) : ∀ l : List Sy, symsLed w (l ++ [y]) = symsLed w l ++ [(y.a, instObj 64 y.d), (y.d, symD w y.num y.tn y.tx y.tt y.t1 y.t2)]
  | [] => rfl
  | x :: r => by rw [List.cons_append, symsLed, symsLed_app w y r, symsLed]; rfl
def refsS (l : List Sy) : List Value := l.map fun y => .ref y.a
theorem refsS_len (l : List Sy) : (refsS l).length = l.length := by simp [refsS]
theorem refsS_app (l : List Sy) (y : Sy) : refsS (l ++ [y]) = refsS l ++ [.ref y.a] := by simp [refsS]
def syA (l : List Sy) (j : Nat) : Addr := (l.getD j ⟨0, 0, 0, 0, Str.empty, 0, 0, 0⟩).a
theorem refsS_get {l : List Sy} {j : Nat} (h : j < l.length) : (refsS l)[j]? = some (.ref (syA l j)) := by
  unfold refsS syA
  rw [List.getElem?_map, List.getD_eq_getElem?_getD, List.getElem?_eq_getElem h]
  rfl
theorem syA_app {l : List Sy} {j : Nat} (h : j < l.length) (y : Sy) : syA (l ++ [y]) j = syA l j := by
  unfold syA
  rw [List.getD_eq_getElem?_getD, List.getD_eq_getElem?_getD, List.getElem?_append_left h]
theorem syA_last (l : List Sy) (y : Sy) : syA (l ++ [y]) l.length = y.a := by
  unfold syA
  rw [List.getD_eq_getElem?_getD]
  simp
theorem syms_at (w : World) : ∀ (l : List Sy) (j : Nat) (h : j < l.length), (syA l j, instObj 64 (l[j]).d) ∈ symsLed w l ∧ ((l[j]).d, symD w (l[j]).num (l[j]).tn (l[j]).tx (l[j]).tt (l[j]).t1 (l[j]).t2) ∈ symsLed w l
  | [], _, h => absurd h (Nat.not_lt_zero _)
  | y :: r, 0, _ => ⟨.head _, .tail _ (.head _)⟩
  | y :: r, j + 1, h => by
    obtain ⟨e1, e2⟩ := syms_at w r j (by simpa using h)
    exact ⟨.tail _ (.tail _ e1), .tail _ (.tail _ e2)⟩
/-- the rows as the law keeps them -/
inductive RowsAre : List Value → List (Option Str) → Prop
  | nil : RowsAre [] []
  | snocN {vs rs} : RowsAre vs rs → RowsAre (vs ++ [.none]) (rs ++ [none])
  | snocS {vs rs} (x : Str) (t : Tok) : RowsAre vs rs → RowsAre (vs ++ [.str x t]) (rs ++ [some x])
theorem RowsAre.length {vs rs} (h : RowsAre vs rs) : vs.length = rs.length := by
  induction h with
  | nil => rfl
  | snocN _ ih => simp [ih]
  | snocS _ _ _ ih => simp [ih]
theorem RowsAre.at {vs rs} (h : RowsAre vs rs) : ∀ {j : Nat}, j < vs.length → (vs[j]? = some .none ∧ rs[j]? = some none) ∨ ∃ x t, vs[j]? = some (.str x t) ∧ rs[j]? = some (some x) := by
  induction h with
  | nil => intro j hj; simp at hj
  | @snocN vs rs h ih =>
    intro j hj
    have e := h.length
    rcases Nat.lt_or_ge j vs.length with q | q
    · rw [List.getElem?_append_left q, List.getElem?_append_left (by omega)]; exact ih q
    · have : j = vs.length := by simp at hj; omega
      subst this
      refine .inl ⟨by simp, by rw [e]; simp⟩
  | @snocS vs rs x t h ih =>
    intro j hj
    have e := h.length
    rcases Nat.lt_or_ge j vs.length with q | q
    · rw [List.getElem?_append_left q, List.getElem?_append_left (by omega)]; exact ih q
    · have : j = vs.length := by simp at hj; omega
      subst this
      refine .inr ⟨x, t, by simp, by rw [e]; simp⟩
def thereL (rs : List (Option Str)) (x : Str) (i : Nat) : List Nat := (List.range i).filter fun j => decide (rs[j]? = some (some x))
theorem thereL_succ (rs : List (Option Str)) (x : Str) (i : Nat) : thereL rs x (i + 1) = thereL rs x i ++ if rs[i]? = some (some x) then [i] else [] := by
  unfold thereL
  rw [List.range_succ, List.filter_append]
  by_cases h : rs[i]? = some (some x) <;> simp [h]
theorem thereL_app (rs : List (Option Str)) (r : Option Str) (x : Str) : thereL (rs ++ [r]) x (rs.length + 1) = thereL rs x rs.length ++ if r = some x then [rs.length] else [] := by
  rw [thereL_succ]
  congr 1
  · unfold thereL
    refine List.filter_congr fun j hj => ?_
    rw [List.getElem?_append_left (by simpa using hj)]
  · simp
theorem thereL_mem {rs : List (Option Str)} {x : Str} {i j : Nat} (h : j ∈ thereL rs x i) : j < i ∧ rs[j]? = some (some x) := by
  unfold thereL at h
  simpa using h
theorem thereL_none {rs : List (Option Str)} {x : Str} {i : Nat} (h : some x ∉ rs) : thereL rs x i = [] := by
  unfold thereL
  refine List.filter_eq_nil_iff.mpr fun j _ q => h ?_
  exact List.mem_of_getElem? (by simpa using q)
theorem valueAt_app {kvs : List (Str × Value)} {k x : Str} {v : Value} : valueAt (kvs ++ [(k, v)]) x = if (valueAt kvs x).isSome then valueAt kvs x else if k = x then some v else none := by
  unfold valueAt
  rw [List.find?_append]
  cases h : kvs.find? fun kv => decide (kv.1 = x) with
  | some p => simp
  | none =>
    by_cases e : k = x <;> simp [e]
structure TS where
  sy : List Sy
  ro : List (Option Str)
  rv : List Value
  nk : Nat
  nr : Nat
  nw : Nat
  od : Obj
  kvs : List (Str × Value)
  oT : Obj
  cv : Option Value
  k : Int
  t : Tok
  n : Nat
def noDot (x : Str) : Prop := 46 ∉ x.cps.toList
structure TI (w : World) (c : TS) : Prop where
  hro : c.ro.length = c.sy.length
  hrv : RowsAre c.rv c.ro
  hnum : ∀ (j : Nat) (h : j < c.sy.length), (c.sy[j]).num = j
  hdict : c.od.IsDictOf (strKind PySem.Challenge.rw_nt0165_01.row.prog w) c.kvs
  hkv : ∀ x, valueAt c.kvs x = (thereL c.ro x c.ro.length).head?.map fun j => .ref (syA c.sy j)
  hshort : ∀ x, some x ∈ c.ro → noDot x
  hkl : c.kvs.length ≤ c.sy.length
  hoT : c.oT.data = Data.cell c.cv
  htx : ∀ (j : Nat) (h : j < c.sy.length) (x : Str), c.ro[j]? = some (some x) → (c.sy[j]).tx = x
theorem num_app {l : List Sy} {y : Sy} (h : ∀ (j : Nat) (h : j < l.length), (l[j]).num = j) (hy : y.num = l.length) : ∀ (j : Nat) (h : j < (l ++ [y]).length), ((l ++ [y])[j]).num = j := by
  intro j hj
  rcases Nat.lt_or_ge j l.length with q | q
  · rw [List.getElem_append_left q]; exact h j q
  · have : j = l.length := by simp at hj; omega
    subst this
    simpa using hy
theorem tx_app {l : List Sy} {y : Sy} {ro : List (Option Str)} {r : Option Str} (hl : ro.length = l.length) (h : ∀ (j : Nat) (h : j < l.length) (x : Str), ro[j]? = some (some x) → (l[j]).tx = x) (hy : ∀ x, r = some x → y.tx = x) :
    ∀ (j : Nat) (h : j < (l ++ [y]).length) (x : Str), (ro ++ [r])[j]? = some (some x) → ((l ++ [y])[j]).tx = x := by
  intro j hj x hx
  rcases Nat.lt_or_ge j l.length with q | q
  · rw [List.getElem?_append_left (by omega)] at hx
    rw [List.getElem_append_left q]; exact h j q x hx
  · have e : j = l.length := by simp at hj; omega
    subst e
    rw [← hl] at hx
    simp only [List.getElem?_concat_length, Option.some.injEq] at hx
    simpa using hy x hx
theorem TI.fresh {w : World} {c : TS} (I : TI w c) (y : Sy) (hy : y.num = c.sy.length) (nk nr nw : Nat) (oT : Obj) (cv : Option Value) (hoT : oT.data = Data.cell cv) (k : Int) (t : Tok) (n : Nat) :
    TI w ⟨c.sy ++ [y], c.ro ++ [none], c.rv ++ [.none], nk, nr, nw, c.od, c.kvs, oT, cv, k, t, n⟩ where
  hro := by simp [I.hro]
  hrv := .snocN I.hrv
  hnum := num_app I.hnum hy
  hdict := I.hdict
  hkv x := by
    simp only [List.length_append, List.length_cons, List.length_nil, Nat.zero_add]
    rw [I.hkv x, thereL_app]
    simp only [reduceCtorEq, if_false, List.append_nil]
    cases h : thereL c.ro x c.ro.length with
    | nil => rfl
    | cons j r =>
      have := (thereL_mem (h ▸ List.mem_cons_self : j ∈ thereL c.ro x c.ro.length)).1
      show some (Value.ref (syA c.sy j)) = some (Value.ref (syA (c.sy ++ [y]) j))
      rw [syA_app (by rw [← I.hro]; exact this)]
  hshort x hx := by
    simp only [List.mem_append, List.mem_singleton, reduceCtorEq, or_false] at hx
    exact I.hshort x hx
  hkl := by have := I.hkl; simp only [List.length_append, List.length_cons, List.length_nil]; omega
  hoT := hoT
  htx := tx_app I.hro I.htx (fun x h => by cases h)
theorem TI.symbol {w : World} {c : TS} (I : TI w c) (y : Sy) (hy : y.num = c.sy.length) (x : Str) (tx : Tok) (hx : noDot x) (hyx : y.tx = x) (hn : thereL c.ro x c.ro.length = []) (od : Obj) (hd : od.IsDictOf (strKind PySem.Challenge.rw_nt0165_01.row.prog w) (stored c.kvs x (.ref y.a))) (nk nr nw : Nat) (oT : Obj) (cv : Option Value) (hoT : oT.data = Data.cell cv) (k : Int) (t : Tok) (n : Nat) :
    TI w ⟨c.sy ++ [y], c.ro ++ [some x], c.rv ++ [.str x tx], nk, nr, nw, od, stored c.kvs x (.ref y.a), oT, cv, k, t, n⟩ where
  hro := by simp [I.hro]
  hrv := .snocS x tx I.hrv
  hnum := num_app I.hnum hy
  hdict := hd
  hkv z := by
    have h0 : valueAt c.kvs x = none := by rw [I.hkv, hn]; rfl
    simp only [List.length_append, List.length_cons, List.length_nil, Nat.zero_add]
    rw [stored_absent h0, valueAt_app, I.hkv z, thereL_app]
    cases h : thereL c.ro z c.ro.length with
    | nil =>
      by_cases e : x = z
      · subst e
        simp only [List.head?_nil, Option.map_none, Option.isSome_none, Bool.false_eq_true, if_false, if_true, List.nil_append, List.head?_cons, Option.map_some]
        rw [I.hro, syA_last]
      · simp [e]
    | cons j r =>
      have := (thereL_mem (h ▸ List.mem_cons_self : j ∈ thereL c.ro z c.ro.length)).1
      simp only [List.head?_cons, Option.map_some, Option.isSome_some, if_true, List.cons_append]
      rw [syA_app (by rw [← I.hro]; exact this)]
  hshort z hz := by
    simp only [List.mem_append, List.mem_singleton, Option.some.injEq] at hz
    rcases hz with hz | hz
    · exact I.hshort z hz
    · rw [hz]; exact hx
  hkl := by
    have h0 : valueAt c.kvs x = none := by rw [I.hkv, hn]; rfl
    have := I.hkl; rw [stored_absent h0]; simp only [List.length_append, List.length_cons, List.length_nil]; omega
  hoT := hoT
  htx := tx_app I.hro I.htx (fun z h => by cases h; exact hyx)
theorem TI.same {w : World} {c : TS} (I : TI w c) (nk nr nw : Nat) (oT : Obj) (cv : Option Value) (hoT : oT.data = Data.cell cv) (k : Int) (t : Tok) (n : Nat) :
    TI w ⟨c.sy, c.ro, c.rv, nk, nr, nw, c.od, c.kvs, oT, cv, k, t, n⟩ := ⟨I.hro, I.hrv, I.hnum, I.hdict, I.hkv, I.hshort, I.hkl, hoT, I.htx⟩
theorem News.upd {g h h' : Heap} {L : Addr} {led led' : List (Addr × Obj)} {js : List Addr} (N : News g L h led) (S : Stays js h h') (H : ∀ p ∈ led', (p ∈ led ∧ p.1 ∉ js) ∨ (h'.get? p.1 = some p.2 ∧ ∃ o, (p.1, o) ∈ led)) : News g L h' led' := fun p hp => by
  rcases H p hp with ⟨a, b⟩ | ⟨a, o, b⟩
  · exact ⟨S _ _ (N p a).1 b, (N p a).2⟩
  · exact ⟨a, (N (p.1, o) b).2⟩
theorem notin1 {x a : Nat} (h : @Ne Nat x a) : x ∉ [a] := by simpa using h
theorem notin2 {x a b : Nat} (h : @Ne Nat x a) (h2 : @Ne Nat x b) : x ∉ [a, b] := by simp [h, h2]
theorem fresh_ne {g h : Heap} {L a : Addr} {led : List (Addr × Obj)} (N : News g L h led) (n : h.get? a = none) : ∀ p ∈ led, @Ne Nat p.1 a := fun p hp e => by
  have z := (N p hp).1
  rw [show p.1 = a from e, n] at z
  cases z
theorem dotted (x z : Str) : ¬ noDot (Str.empty ++ x ++ Str.ofString "." ++ z) := fun q => by
  refine q ?_
  rw [Str.cps_append, Str.cps_append, Array.toList_append, Array.toList_append]
  have : 46 ∈ (Str.ofString ".").cps.toList := by decide +kernel
  simp [this]
theorem TI.none_of_dot {w : World} {c : TS} (I : TI w c) (x z : Str) : valueAt c.kvs (Str.empty ++ x ++ Str.ofString "." ++ z) = none := by
  rw [I.hkv, thereL_none (fun h => dotted x z (I.hshort _ h))]; rfl
theorem slice_pre (x y z : Str) : Txt.slice (Str.empty ++ x ++ y ++ z) none (some (x.length : Int)) = x := by
  have e : (Str.empty ++ x ++ y ++ z).cps.toList = x.cps.toList ++ (y.cps.toList ++ z.cps.toList) := by
    rw [Str.cps_append, Str.cps_append, Array.toList_append, Array.toList_append, Str.cps_append, Array.toList_append]
    simp [Str.empty]
  have hl : x.length = x.cps.toList.length := rfl
  refine (StrLaws.sliceText_to ⟨by omega, by rw [e, hl]; simp; omega⟩).trans ?_
  rw [e, List.drop_zero, hl]
  simp
theorem eq_lens {prog : Program} {w : World} {A : Around} {E : Value → Shared → Prop} {s : Shared} {a b : Addr} {vs us : List Value} {Q : Value → Shared → Prop} (hl : s.heap.IsList a vs.toArray) (hl' : s.heap.IsList b us.toArray) (hsz : vs.length ≠ us.length) (hu : A.units < cLine) (h : Q (.bool false) s) : wpAny (model prog w) A (compareOp .Eq (.ref a) (.ref b)) Q E s :=
  cmp_ofEq (PySem.SeqAt.RcAt.lists_lengths hl hl' (by simpa using hsz) hu prog w E Q h)
end Mine
end
section
open PySem PySem.W PyProof.Rows PySem.Calls PySem.Spec PyProof.V
namespace Mine
local macro_rules | `(tactic| walk_at "call builtin:dict.get") => `(tactic| (k_here; refine kdg_get2 (knd := PySem.strKind _ _) (by assumption) (by k_mem) (by assumption) (by assumption) (strKind_is _ _ _ _) _ (by assumption) ?_; (try simp only [Option.getD_none, Option.getD_some])))
local macro_rules | `(tactic| walk_at "call builtin:len") => `(tactic| (k_here; refine' len_list ?hl ?hb ?_; (case hl => walk_at "Ml"); (case hb => (simp only [List.size_toArray]; omega))))
theorem find_ok {w : World} {s : Shared} {Q : Value → Shared → Prop} (tb td rl bd : Addr) (t1 t2 : Tok) (rs : List Value) (nr : Nat) (od : Obj) (kvs : List (Str × Value)) (tx : Str) (tt : Tok) (r : Option Value)
   (hd' : od.IsDictOf (strKind PySem.Challenge.rw_nt0165_01.row.prog w) kvs) (lo : (bd == sysModules) = false) (hrs : rs.length ≤ 100) (hl : valueAt kvs tx = r)
   (ret : ∀ h' tk', Stays [] s.heap h' → Q (r.getD .none) { s with heap := h', toks := tk' }) :
   CallOk 3 60 w 110 [.ref tb, .str tx tt] [(tb, instObj 127 td), (td, tabD w rl bd t1 t2), (rl, listO rs nr), (bd, od)] s Q := by
  intro p loose mean mg mb dp un gd cn cs a ccd cl outer A₀ base h₀ L m E B F X N T hk hdp hun
  revert X; k_fill; intro X
  refine wpAny_call (enterH (K := Mine.K w.params) (binds := [("self", .ref tb), ("text", .str tx tt)]) B F X N T rfl rfl hk (by k_is) (by k_is) (by ktr_room) (BindsTo.of_eq rfl) (locs rfl) ?_ rfl rfl rfl (by decide))
  intro g L' h' hg1 hg2 F' N' B' X' T' l1
  have bk : ∀ p ∈ [(tb, instObj 127 td), (td, tabD w rl bd t1 t2), (rl, listO rs nr), (bd, od)], s.heap.get? p.1 = some p.2 := fun p hp => (N p hp).1
  clear F N B X T hg2
  try dsimp only
  try k_fold
  k_steps
  exact ret _ _ (Stays.back (hg1.done (by assumption)) bk (fun p hp => News.at (by assumption) hp))
theorem size_ok {w : World} {s : Shared} {Q : Value → Shared → Prop} (tb td rl bd : Addr) (t1 t2 : Tok) (rs : List Value) (nr : Nat) (od : Obj) (kvs : List (Str × Value)) 
   (hd' : od.IsDictOf (strKind PySem.Challenge.rw_nt0165_01.row.prog w) kvs) (lo : (bd == sysModules) = false) (hrs : rs.length ≤ 100) 
   (ret : ∀ t h' tk', Stays [] s.heap h' → Q (.int rs.length t) { s with heap := h', toks := tk' }) :
   CallOk 3 60 w 124 [.ref tb] [(tb, instObj 127 td), (td, tabD w rl bd t1 t2), (rl, listO rs nr), (bd, od)] s Q := by
  intro p loose mean mg mb dp un gd cn cs a ccd cl outer A₀ base h₀ L m E B F X N T hk hdp hun
  revert X; k_fill; intro X
  refine wpAny_call (enterH (K := Mine.K w.params) (binds := [("self", .ref tb)]) B F X N T rfl rfl hk (by k_is) (by k_is) (by ktr_room) (BindsTo.of_eq rfl) (locs rfl) ?_ rfl rfl rfl (by decide))
  intro g L' h' hg1 hg2 F' N' B' X' T' l1
  have bk : ∀ p ∈ [(tb, instObj 127 td), (td, tabD w rl bd t1 t2), (rl, listO rs nr), (bd, od)], s.heap.get? p.1 = some p.2 := fun p hp => (N p hp).1
  clear F N B X T hg2
  try dsimp only
  try k_fold
  k_steps
  exact ret _ _ _ (Stays.back (hg1.done (by assumption)) bk (fun p hp => News.at (by assumption) hp))
theorem num_ok {w : World} {s : Shared} {Q : Value → Shared → Prop} (tb td rl bd : Addr) (t1 t2 : Tok) (rs : List Value) (nr : Nat) (od : Obj) (kvs : List (Str × Value)) (k : Int) (t : Tok) (v : Value)
   (hd' : od.IsDictOf (strKind PySem.Challenge.rw_nt0165_01.row.prog w) kvs) (lo : (bd == sysModules) = false) (hrs : rs.length ≤ 100) (hk0 : 0 ≤ k) (hk1 : k < 2 ^ 63) (hv : rs[k.toNat]? = some v)
   (ret : ∀ h' tk', Stays [] s.heap h' → Q v { s with heap := h', toks := tk' }) :
   CallOk 3 60 w 103 [.ref tb, .int k t] [(tb, instObj 127 td), (td, tabD w rl bd t1 t2), (rl, listO rs nr), (bd, od)] s Q := by
  intro p loose mean mg mb dp un gd cn cs a ccd cl outer A₀ base h₀ L m E B F X N T hk hdp hun
  revert X; k_fill; intro X
  refine wpAny_call (enterH (K := Mine.K w.params) (binds := [("self", .ref tb), ("number", .int k t)]) B F X N T rfl rfl hk (by k_is) (by k_is) (by ktr_room) (BindsTo.of_eq rfl) (locs rfl) ?_ rfl rfl rfl (by decide))
  intro g L' h' hg1 hg2 F' N' B' X' T' l1
  have bk : ∀ p ∈ [(tb, instObj 127 td), (td, tabD w rl bd t1 t2), (rl, listO rs nr), (bd, od)], s.heap.get? p.1 = some p.2 := fun p hp => (N p hp).1
  clear F N B X T hg2
  try dsimp only
  try k_fold
  (k_with "subscriptTail" => refine hold_in ?_)
  k_steps
  k_with_none
  refine hold_out ?_
  refine sub_pos (News.isList (by assumption) (by k_mem)) hk0 hk1 hv ?_
  k_steps
  exact ret _ _ (Stays.back (hg1.done (by assumption)) bk (fun p hp => News.at (by assumption) hp))
theorem interned_ok {w : World} {s : Shared} {Q : Value → Shared → Prop} (tb td rl bd : Addr) (t1 t2 : Tok) (rs : List Value) (nr : Nat) (od : Obj) (kvs : List (Str × Value)) (x xd : Addr) (num : Int) (tn : Tok) (tx : Str) (tt t3 t4 : Tok) (r : Option Value)
   (hd' : od.IsDictOf (strKind PySem.Challenge.rw_nt0165_01.row.prog w) kvs) (lo : (bd == sysModules) = false) (hrs : rs.length ≤ 100) (hl : valueAt kvs tx = r) (hr : r = none ∨ r = some (.ref x))
   (ret : ∀ h' tk', Stays [] s.heap h' → Q (.bool r.isSome) { s with heap := h', toks := tk' }) :
   CallOk 3 60 w 117 [.ref tb, .ref x] [(tb, instObj 127 td), (td, tabD w rl bd t1 t2), (rl, listO rs nr), (bd, od), (x, instObj 64 xd), (xd, symD w num tn tx tt t3 t4)] s Q := by
  intro p loose mean mg mb dp un gd cn cs a ccd cl outer A₀ base h₀ L m E B F X N T hk hdp hun
  revert X; k_fill; intro X
  refine wpAny_call (enterH (K := Mine.K w.params) (binds := [("self", .ref tb), ("symbol", .ref x)]) B F X N T rfl rfl hk (by k_is) (by k_is) (by ktr_room) (BindsTo.of_eq rfl) (locs rfl) ?_ rfl rfl rfl (by decide))
  intro g L' h' hg1 hg2 F' N' B' X' T' l1
  have bk : ∀ p ∈ [(tb, instObj 127 td), (td, tabD w rl bd t1 t2), (rl, listO rs nr), (bd, od), (x, instObj 64 xd), (xd, symD w num tn tx tt t3 t4)], s.heap.get? p.1 = some p.2 := fun p hp => (N p hp).1
  clear F N B X T hg2
  try dsimp only
  try k_fold
  rcases hr with rfl | rfl
  · k_steps
    exact ret _ _ (Stays.back (hg1.done (by assumption)) bk (fun p hp => News.at (by assumption) hp))
  · k_steps
    exact ret _ _ (Stays.back (hg1.done (by assumption)) bk (fun p hp => News.at (by assumption) hp))
local macro_rules | `(tactic| kt_len) => `(tactic| assumption)
local macro_rules | `(tactic| walk_at "formatField str") => `(tactic| (k_here; refine SB.field_str (fun _ _ => ?_) (by rw [sizeLine_eq]; omega)))
local macro_rules | `(tactic| walk_at "Mz") => `(tactic| (simp only [List.size_toArray, PySem.sizeLine_eq]; omega))
local macro_rules | `(tactic| walk_at "setItem ref str") => `(tactic| (k_here; k_dflt (refine' kda_set (knd := PySem.strKind _ _) ?F ?N ?U ?d (strKind_is _ _ _ _) ?z ?_; (case F => k_asm); (case N => k_asm); (case U => k_updF); (case d => k_asm); (case z => (rw [sizeLine_eq]; omega))); intro h' o' F' N' hd'; (try dsimp only at N')))
theorem symbol_ok {w : World} {s : Shared} {Q : Value → Shared → Prop} (tb td rl bd : Addr) (t1 t2 : Tok) (rs : List Value) (nr : Nat) (od : Obj) (kvs : List (Str × Value)) (tx : Str) (tt : Tok) (r : Option Value)
   (hd' : od.IsDictOf (strKind PySem.Challenge.rw_nt0165_01.row.prog w) kvs) (lo : (bd == sysModules) = false) (hrs : rs.length ≤ 100) (hkv : kvs.length ≤ 100) (hl : valueAt kvs tx = r) (hr : r = none ∨ ∃ y, r = some (.ref y)) (hne : rl ≠ bd) (hn2 : @Ne Nat td rl ∧ @Ne Nat td bd ∧ @Ne Nat tb rl ∧ @Ne Nat tb bd ∧ @Ne Nat rl bd)
   (ret0 : ∀ y h' tk', r = some (.ref y) → Stays [] s.heap h' → Q (.ref y) { s with heap := h', toks := tk' })
   (ret : ∀ x xd tn tt' ta tb' n od' h' tk', r = none → Stays [rl, bd] s.heap h' → s.heap.get? x = none → s.heap.get? xd = none → h'.get? x = some (instObj 64 xd) → h'.get? xd = some (symD w rs.length tn tx tt' ta tb') → h'.get? rl = some (listO (rs ++ [.ref x]) n) → h'.get? bd = some od' → od'.IsDictOf (strKind PySem.Challenge.rw_nt0165_01.row.prog w) (stored kvs tx (.ref x)) → Q (.ref x) { s with heap := h', toks := tk' }) :
   CallOk 3 60 w 89 [.ref tb, .str tx tt] [(tb, instObj 127 td), (td, tabD w rl bd t1 t2), (rl, listO rs nr), (bd, od)] s Q := by
  intro p loose mean mg mb dp un gd cn cs a ccd cl outer A₀ base h₀ L m E B F X N T hk hdp hun
  revert X; k_fill; intro X
  refine wpAny_call (enterH (K := Mine.K w.params) (binds := [("self", .ref tb), ("text", .str tx tt)]) B F X N T rfl rfl hk (by k_is) (by k_is) (by ktr_room) (BindsTo.of_eq rfl) (locs rfl) ?_ rfl rfl rfl (by decide))
  intro g L' h' hg1 hg2 F' N' B' X' T' l1
  have bk : ∀ p ∈ [(tb, instObj 127 td), (td, tabD w rl bd t1 t2), (rl, listO rs nr), (bd, od)], s.heap.get? p.1 = some p.2 := fun p hp => (N p hp).1
  clear F N B X T hg2
  try dsimp only
  try k_fold
  rcases hr with rfl | ⟨y, rfl⟩
  · k_steps
    rename News _ _ _ _ => N9
    rename _ < _ => l9b
    obtain ⟨q1, q2, q3, q4, _⟩ := allLt_of (by assumption)
    have z1 := N9 _ (.head _)
    have z2 := N9 _ (.tail _ (.head _))
    rw [List.push_toArray] at N9
    exact ret _ _ _ _ _ _ _ _ _ _ rfl (Stays.back2 (hg1.done (by assumption)) bk (by intro p hp; simp only [List.mem_cons, List.not_mem_nil, or_false] at hp ⊢; rcases hp with h | h | h | h <;> subst h <;> first | exact .inl (.inl rfl) | exact .inl (.inr rfl) | exact .inr (News.at N9 (by simp)))) (none_stays hg1 z1.2.2 (notin4 (Nat.lt_trans q1 l9b) (Nat.lt_trans q2 l9b) (Nat.lt_trans q3 l9b) (Nat.lt_trans q4 l9b))) (none_stays hg1 z2.2.2 (notin4 q1 q2 q3 q4)) z1.1 z2.1 (News.at N9 (.tail _ (.tail _ (.tail _ (.tail _ (.head _)))))) (News.at N9 (.tail _ (.tail _ (.tail _ (.tail _ (.tail _ (.head _))))))) (by assumption)
  · k_steps
    exact ret0 _ _ _ rfl (Stays.back (hg1.done (by assumption)) bk (fun p hp => News.at (by assumption) hp))
theorem fresh_ok {w : World} {s : Shared} {Q : Value → Shared → Prop} (tb td rl bd : Addr) (t1 t2 : Tok) (rs : List Value) (nr : Nat) (od : Obj) (kvs : List (Str × Value)) (tx : Str) (tt : Tok)
   (hd' : od.IsDictOf (strKind PySem.Challenge.rw_nt0165_01.row.prog w) kvs) (lo : (bd == sysModules) = false) (hrs : rs.length ≤ 100) (hkv : kvs.length ≤ 100) (htx : tx.length ≤ 2) (hne : rl ≠ bd) (hn2 : @Ne Nat td rl ∧ @Ne Nat td bd ∧ @Ne Nat tb rl ∧ @Ne Nat tb bd ∧ @Ne Nat rl bd)
   (ret : ∀ x xd tn tt' ta tb' n h' tk', Stays [rl] s.heap h' → s.heap.get? x = none → s.heap.get? xd = none → h'.get? x = some (instObj 64 xd) → h'.get? xd = some (symD w rs.length tn (Str.empty ++ tx ++ Str.ofString "." ++ Str.ofString (toString (rs.length : Int))) tt' ta tb') → h'.get? rl = some (listO (rs ++ [.ref x]) n) → Q (.ref x) { s with heap := h', toks := tk' }) :
   CallOk 3 60 w 96 [.ref tb, .str tx tt] [(tb, instObj 127 td), (td, tabD w rl bd t1 t2), (rl, listO rs nr), (bd, od)] s Q := by
  intro p loose mean mg mb dp un gd cn cs a ccd cl outer A₀ base h₀ L m E B F X N T hk hdp hun
  revert X; k_fill; intro X
  refine wpAny_call (enterH (K := Mine.K w.params) (binds := [("self", .ref tb), ("hint", .str tx tt)]) B F X N T rfl rfl hk (by k_is) (by k_is) (by ktr_room) (BindsTo.of_eq rfl) (locs rfl) ?_ rfl rfl rfl (by decide))
  intro g L' h' hg1 hg2 F' N' B' X' T' l1
  have bk : ∀ p ∈ [(tb, instObj 127 td), (td, tabD w rl bd t1 t2), (rl, listO rs nr), (bd, od)], s.heap.get? p.1 = some p.2 := fun p hp => (N p hp).1
  clear F N B X T hg2
  try dsimp only
  try k_fold
  k_steps
  rename News _ _ _ _ => N9
  rename _ < _ => l9b
  obtain ⟨q1, q2, q3, q4, _⟩ := allLt_of (by assumption)
  have z1 := N9 _ (.head _)
  have z2 := N9 _ (.tail _ (.head _))
  rw [List.push_toArray] at N9
  exact ret _ _ _ _ _ _ _ _ _ (Stays.back2 (hg1.done (by assumption)) bk (by intro p hp; simp only [List.mem_cons, List.not_mem_nil, or_false] at hp ⊢; rcases hp with h | h | h | h <;> subst h <;> first | exact .inl rfl | exact .inr (News.at N9 (by simp)))) (none_stays hg1 z1.2.2 (notin4 (Nat.lt_trans q1 l9b) (Nat.lt_trans q2 l9b) (Nat.lt_trans q3 l9b) (Nat.lt_trans q4 l9b))) (none_stays hg1 z2.2.2 (notin4 q1 q2 q3 q4)) z1.1 z2.1 (News.at N9 (.tail _ (.tail _ (.tail _ (.tail _ (.head _))))))
end Mine
end
section
open PySem PySem.W PyProof.Rows PySem.Calls PySem.Spec PyProof.V
namespace Mine
local macro_rules | `(tactic| walk_at "call ref") => `(tactic| (k_here; k_dflt (refine Mine.hold_ref [399, 89, 96, 103, 110, 117, 124] rfl ?_)))
local macro_rules | `(tactic| walk_at "CompSrcT") => `(tactic| refine hold_in ?_)
local macro_rules | `(tactic| walk_at "compareOp Eq ref ref") => `(tactic| (k_here; k_dflt (refine' eq_lens ?a ?b ?c ?e ?_; (case a => walk_at "Ml"); (case b => walk_at "Ml"); (case c => (simp; done)); (case e => ktr_units))))
theorem Off1.mem {D : Addr} : ∀ {l : List (Addr × Obj)}, LCg.Off1 D l → ∀ p ∈ l, @Ne Nat p.1 D
  | [], _, p, hp => by cases hp
  | q :: r, h, p, hp => by
    rcases List.mem_cons.mp hp with rfl | hp
    · exact h.1
    · exact Off1.mem h.2 p hp
local macro_rules | `(tactic| k_mem) => `(tactic| ((with_reducible show List.Mem _ (symsLed _ _)); assumption))
local macro_rules | `(tactic| walk_at "compareOp IsNot ref ref") => `(tactic| (k_here; with_reducible refine wpAny_isNot_ref_self ?_))
local macro_rules | `(tactic| walk_at "call type:list") => `(tactic| (k_here; refine hold_in ?_))
theorem refsS_at {l : List Sy} {i : Nat} {v : Value} (h : (refsS l).toArray[i]? = some v) : i < l.length ∧ v = .ref (syA l i) := by
  simp only [List.getElem?_toArray] at h
  have hl : i < l.length := by
    obtain ⟨q, _⟩ := List.getElem?_eq_some_iff.mp h
    simpa [refsS] using q
  rw [refsS_get hl] at h
  exact ⟨hl, (Option.some.inj h).symm⟩
theorem allApp {α : Type} {P : α → Prop} {l r : List α} (h : ∀ p ∈ l, P p) (k : ∀ p ∈ r, P p) : ∀ p ∈ l ++ r, P p := fun p q => (List.mem_append.mp q).elim (h p) (k p)
theorem eq_int_no {prog : Program} {w : World} {A : Around} {E : Value → Shared → Prop} {s : Shared} {a b : Int} {t u : Tok} {Q : Value → Shared → Prop} (n : a ≠ b) (h : Q (.bool false) s) : wpAny (model prog w) A (compareOp .Eq (.int a t) (.int b u)) Q E s :=
  eq_int (by rw [beq_eq_false_iff_ne.mpr n]; exact h)
local macro_rules | `(tactic| walk_at "compareOp Eq int int") => `(tactic| (k_here; k_dflt (refine eq_int_no ?n ?_; (case n => assumption))))
theorem ar0 (n : Nat) : (0 : Int) ≤ (n : Int) := Int.natCast_nonneg n
theorem ar62 {n : Nat} (h : n ≤ 100) : (n : Int) < 2 ^ 62 := by omega
theorem ar63 {n : Nat} (h : n ≤ 100) : (n : Int) < 2 ^ 63 := by omega
theorem al62 (n : Nat) : -(2 ^ 62) ≤ (n : Int) := by omega
theorem arz (n : Nat) : (0 : Int) ≤ 0 + (n : Int) := by omega
theorem arz63 {n : Nat} (h : n ≤ 100) : 0 + (n : Int) < 2 ^ 63 := by omega
theorem arzN (n : Nat) : ((0 : Int) + (n : Int)).toNat = n := by omega
theorem arj (n : Nat) : ((n : Int)).toNat = n := rfl
theorem arS (n : Nat) : ((n : Int) - 0).toNat = n := by omega
theorem arB {n : Nat} (h : n ≤ 100) : n ≤ 16777216 := Nat.le_trans h (by decide)
theorem arBs {n : Nat} (h : n ≤ 100) : n + 1 ≤ 16777216 := Nat.le_trans (Nat.succ_le_succ h) (by decide)
theorem arm (n : Nat) : (0 : Int) ≤ 0 + (n : Int) * 1 := by omega
theorem arm63 {n : Nat} (h : n ≤ 100) : 0 + (n : Int) * 1 < 2 ^ 63 := by omega
theorem armN (n : Nat) : ((0 : Int) + (n : Int) * 1).toNat = n := by omega
local macro_rules | `(tactic| walk_at "Mz") => `(tactic| (simp only [List.size_toArray, PySem.sizeLine_eq, refsS_len, List.length_append, List.length_cons, List.length_nil]; first | exact arB (by assumption) | exact arBs (by assumption) | omega))
local macro_rules | `(tactic| walk_at "call builtin:len") => `(tactic| (k_here; k_dflt (refine' len_list ?hl ?hb ?_; (case hl => walk_at "Ml"); (case hb => (simp only [List.size_toArray, refsS_len, List.length_append, List.length_map, List.length_cons, List.length_nil]; first | exact ar63 (by assumption) | omega)))))
structure T0 where
  tb : Addr
  td : Addr
  rl : Addr
  bd : Addr
  kl : Addr
  rw : Addr
  t1 : Tok
  t2 : Tok
  od : Obj
  oR : Obj
structure T1 where
  v : Int
  tv : Tok
  x : Str
  tx : Tok
  oT : Obj
  k : Int
  t : Tok
  n : Nat
theorem table_ok {w : World} {s : Shared} {Q : Value → Shared → Prop} (dk ia : Addr) (vs : List Value) (ns : List Int) (k : Int) (t : Tok) (n : Nat)
   (hia : s.heap.IsList ia vs.toArray) (hne : ia ≠ dk) (hi : IntsAre vs ns) (hns : ns.length ≤ 63) (hk0 : 0 ≤ k) (hk1 : k < 900)
   (ret : ∀ k' t' n' h' tk', k ≤ k' → k' ≤ k + 50 → Stays [dk] s.heap h' → h'.get? dk = some (listO [.ref ia, .int k' t'] n') → Q (.bool true) { s with heap := h', toks := tk' }) :
   CallOk 8 200 w 404 [.ref dk] [(dk, listO [.ref ia, .int k t] n)] s Q := by
  intro p loose mean mg mb dp un gd cn cs a ccd cl outer A₀ base h₀ L m E B F X N T hk hdp hun
  revert X; k_fill; intro X
  refine wpAny_call (enterHC (K := Mine.K w.params) (binds := [("deck", .ref dk)]) B F X N T rfl rfl hk (by k_is) (by k_is) (by ktr_room) (BindsTo.of_eq rfl) rfl (by decide +kernel) ?_ rfl rfl rfl)
  intro g L' h' tk' cells' hg1 hg2 F' N' Y' B' X' T' l1 htk
  have hia' : g.IsList ia vs.toArray := by
    obtain ⟨o, ho, r⟩ := hia
    exact ⟨o, hg1 _ _ ho (by simpa using hne), r⟩
  clear F N B X T hg2 htk
  (replace l1 := allLt_of l1; simp only [AllLt, and_true] at l1)
  k_cells Y'
  simp only [List.cons_append, List.nil_append] at N'
  have ldk : @LT.lt Nat _ dk L' := l1
  rename_i oT0 oR0 dT0 dR0
  change oT0.data = Data.cell none at dT0
  change oR0.data = Data.cell none at dR0
  try dsimp only
  try k_fold
  refine execs_mid (h₀ := g) (L := L') (fun c : T0 => [("deck", .ref dk), ("table", .ref c.tb), ("known", .ref c.kl)]) (fun c : T0 => [(c.kl, listO [] 0), (c.rw, listO [] 0), (c.bd, c.od), (c.rl, listO [] 0), (c.tb, instObj 127 c.td), (c.td, tabD w c.rl c.bd c.t1 c.t2), (L' + 1 + 1, oT0), (L' + 1, c.oR), (dk, listO [.ref ia, .int k t] n)])
    (fun c : T0 => (@LT.lt Nat _ (L' + 1 + 1) c.td ∧ @LT.lt Nat _ c.td c.tb ∧ @LT.lt Nat _ c.tb c.rl ∧ @LT.lt Nat _ c.rl c.bd ∧ @LT.lt Nat _ c.bd c.rw ∧ @LT.lt Nat _ c.rw c.kl) ∧ (c.bd == sysModules) = false ∧ c.od.IsDictOf (strKind PySem.Challenge.rw_nt0165_01.row.prog w) [] ∧ c.oR.data = Data.cell (some (.ref c.rw))) ?init ?rest1
  case init =>
    k_steps
    rename News _ _ _ _ => N9
    rename Fr _ _ _ _ => F9
    exact MidP.mk (⟨_, _, _, _, _, _, _, _, _, _⟩ : T0) F9 N9 (fun _ q => .tail _ q) (by walk_at "Mps") ⟨⟨by (try dsimp only); walk_at "Mlt", by (try dsimp only); walk_at "Mlt", by (try dsimp only); walk_at "Mlt", by (try dsimp only); walk_at "Mlt", by (try dsimp only); walk_at "Mlt", by (try dsimp only); walk_at "Mlt"⟩, by assumption, by assumption, by assumption⟩
  case rest1 =>
    clear F' N'
    rintro ⟨tb, td, rl, bd, kl, rw, ta1, ta2, od0, oR⟩ u h tk ⟨⟨q1, q2, q3, q4, q5, q6⟩, lo, hod0, hoR⟩ _ F N
    simp only at q1 q2 q3 q4 q5 q6 lo hod0 hoR F N
    k_steps
    refine hold_out ?_
    with_unfolding_all refine draw_use (by assumption) (by assumption) (by assumption) (by assumption) (by assumption) rfl (by ktr_room) (by ktr_units) (by k_updF) (Fr.lst (by assumption) hia') hne hi hns hk0 (by omega) (by decide) (by decide) ?_
    intro v tv t1 n1 h1 tk1 hv0 hv1 _ F1 N1
    have hvb : Hold (0 ≤ v ∧ v < 8) := ⟨hv0, hv1⟩
    clear hv0 hv1
    try dsimp only
    (k_with "pyIter ref" => refine hold_in ?_)
    k_steps
    k_with_none
    obtain ⟨hv0, hv1⟩ : 0 ≤ v ∧ v < 8 := hvb
    refine hold_out ?_
    have hI0 : TI w ⟨[], [], [], 0, 0, 0, od0, [], oT0, none, k + 1, t1, n1⟩ := ⟨rfl, .nil, fun j h => absurd h (Nat.not_lt_zero _), hod0, fun x => rfl, fun x h => (by cases h), Nat.le_refl _, dT0, fun j h => absurd h (Nat.not_lt_zero _)⟩
    with_unfolding_all refine for_range (fun c : TS => (kl, listO (refsS c.sy) c.nk) :: (rw, listO c.rv c.nw) :: (bd, c.od) :: (rl, listO (refsS c.sy) c.nr) :: (tb, instObj 127 td) :: (td, tabD w rl bd ta1 ta2) :: (L' + 1 + 1, c.oT) :: (L' + 1, oR) :: (dk, listO [.ref ia, .int c.k c.t] c.n) :: symsLed w c.sy) (fun c : TS => [("deck", .ref dk), ("table", .ref tb), ("known", .ref kl)]) (fun i c => TI w c ∧ c.sy.length ≤ i ∧ k + 1 ≤ c.k ∧ c.k ≤ k + 1 + 4 * (i : Int) ∧ ∀ p ∈ symsLed w c.sy, @Ne Nat p.1 kl ∧ @Ne Nat p.1 rw ∧ @Ne Nat p.1 bd ∧ @Ne Nat p.1 rl ∧ @Ne Nat p.1 tb ∧ @Ne Nat p.1 td ∧ @Ne Nat p.1 (L' + 1 + 1) ∧ @Ne Nat p.1 (L' + 1) ∧ @Ne Nat p.1 dk) ⟨[], [], [], 0, 0, 0, od0, [], oT0, none, k + 1, t1, n1⟩ rfl (by assumption) (small_one (by decide) (by decide) (by omega) (by omega)) (rangeSize_nat _ _) (by assumption) (by assumption) ?ps0 ?r0 ?turn ?done
    case ps0 => walk_at "Mps"
    case r0 => exact ⟨hI0, Nat.le_refl _, Int.le_refl _, by simp, fun p hp => by cases hp⟩
    case done =>
      rintro c u h tk ⟨I, hlen, hka, hkb, off⟩ F N
      try dsimp only
      k_steps
      exact ret c.k c.t c.n _ _ (by omega) (by omega) (hg1.done (by assumption)) (News.at (by assumption) (by k_mem))
    case turn =>
      rintro i t0 c u h tk I oi hi2 ⟨TIc, hlen, hka, hkb, off⟩ hneI F N
      have hi3 : i < 8 := by omega
      change Fr g L' _ _ at F
      change News g L' _ _ at N
      have b1 : @Ne Nat kl I := hneI _ (.head _)
      have b2 : @Ne Nat rw I := hneI _ (.tail _ (.head _))
      have b3 : @Ne Nat bd I := hneI _ (.tail _ (.tail _ (.head _)))
      have b4 : @Ne Nat rl I := hneI _ (.tail _ (.tail _ (.tail _ (.head _))))
      have b5 : @Ne Nat tb I := hneI _ (.tail _ (.tail _ (.tail _ (.tail _ (.head _)))))
      have b6 : @Ne Nat td I := hneI _ (.tail _ (.tail _ (.tail _ (.tail _ (.tail _ (.head _))))))
      have b7 : @Ne Nat (L' + 1 + 1) I := hneI _ (.tail _ (.tail _ (.tail _ (.tail _ (.tail _ (.tail _ (.head _)))))))
      have b8 : @Ne Nat (L' + 1) I := hneI _ (.tail _ (.tail _ (.tail _ (.tail _ (.tail _ (.tail _ (.tail _ (.head _))))))))
      have b9 : @Ne Nat dk I := hneI _ (.tail _ (.tail _ (.tail _ (.tail _ (.tail _ (.tail _ (.tail _ (.tail _ (.head _)))))))))
      have bsy : ∀ p ∈ symsLed w c.sy, @Ne Nat p.1 I := fun p hp => hneI p (.tail _ (.tail _ (.tail _ (.tail _ (.tail _ (.tail _ (.tail _ (.tail _ (.tail _ hp)))))))))
      have osy : ∀ p ∈ symsLed w c.sy, @Ne Nat p.1 dk := fun p hp => (off p hp).2.2.2.2.2.2.2.2
      have osT : ∀ p ∈ symsLed w c.sy, @Ne Nat p.1 (L' + 1 + 1) := fun p hp => (off p hp).2.2.2.2.2.2.1
      have hoT := TIc.hoT
      clear hneI
      refine execs_mid (h₀ := g) (L := L') (fun e : T1 => [("deck", .ref dk), ("table", .ref tb), ("known", .ref kl), ("way", .int e.v e.tv)]) (fun e : T1 => (I, oi) :: (kl, listO (refsS c.sy) c.nk) :: (rw, listO c.rv c.nw) :: (bd, c.od) :: (rl, listO (refsS c.sy) c.nr) :: (tb, instObj 127 td) :: (td, tabD w rl bd ta1 ta2) :: (L' + 1 + 1, e.oT) :: (L' + 1, oR) :: (dk, listO [.ref ia, .int e.k e.t] e.n) :: symsLed w c.sy)
        (fun e : T1 => 0 ≤ e.v ∧ e.v < 4 ∧ e.x.length ≤ 2 ∧ noDot e.x ∧ e.oT.data = Data.cell (some (.str e.x e.tx)) ∧ c.k ≤ e.k ∧ e.k ≤ c.k + 3) ?wt ?rest2
      case wt =>
        k_steps
        refine hold_out ?_
        with_unfolding_all refine draw_use (by assumption) (by assumption) (by assumption) (by assumption) (by assumption) rfl (by ktr_room) (by ktr_units) (by k_updF) (Fr.lst (by assumption) hia') hne hi hns (by omega) (by omega) (by decide) (by decide) ?_
        intro v1 tv1 t1' n1' h1' tk1' hv10 hv11 _ F1 N1
        try dsimp only
        k_steps
        refine hold_out ?_
        with_unfolding_all refine draw_use (by assumption) (by assumption) (by assumption) (by assumption) (by assumption) rfl (by ktr_room) (by ktr_units) (by k_updF) (Fr.lst (by assumption) hia') hne hi hns (by omega) (by omega) (by decide) (by decide) ?_
        intro v2 tv2 t2' n2' h2' tk2' hv20 hv21 _ F2 N2
        have e2 : v2 = 0 ∨ v2 = 1 := by omega
        clear hv20 hv21
        rcases e2 with rfl | rfl
        all_goals (
          try dsimp only
          k_steps
          refine hold_out ?_
          with_unfolding_all refine draw_use (by assumption) (by assumption) (by assumption) (by assumption) (by assumption) rfl (by ktr_room) (by ktr_units) (by k_updF) (Fr.lst (by assumption) hia') hne hi hns (by omega) (by omega) (by decide) (by decide) ?_
          intro v3 tv3 t3' n3' h3' tk3' hv30 hv31 _ F3 N3
          have e3 : v3 = 0 ∨ v3 = 1 := by omega
          clear hv30 hv31
          rcases e3 with rfl | rfl)
        all_goals (
          try dsimp only
          k_steps
          rename News _ _ _ _ => N9
          rename Fr _ _ _ _ => F9
          rename (_ = Data.cell (some (Value.str _ _))) => d9
          exact MidP.mk (⟨v1, tv1, _, _, _, _, _, _⟩ : T1) F9 N9 (fun _ q => .tail _ q) (by walk_at "Mps") ⟨hv10, hv11, (by dsimp only; decide +kernel), (by unfold noDot; dsimp only; decide +kernel), d9, by (try dsimp only); omega, by (try dsimp only); omega⟩)
      case rest2 =>
        clear F N
        rintro ⟨v1, tv1, x, tx, oT, k1, t1', n1'⟩ u h tk ⟨hv10, hv11, hx, hdot, hoT1, hk1a, hk1b⟩ _ F N
        simp only at hv10 hv11 hx hdot hoT1 hk1a hk1b F N
        clear hoT
        have hrvl : c.rv.length = c.sy.length := TIc.hrv.length.trans TIc.hro
        have hsy1 : c.sy.length ≤ 100 := Nat.le_trans hlen (Nat.le_trans (Nat.le_of_lt hi3) (by decide))
        have hrv1 : c.rv.length ≤ 100 := by rw [hrvl]; exact hsy1
        refine execs_mid (h₀ := g) (L := L') (fun e : Addr × List Value => [("deck", .ref dk), ("table", .ref tb), ("known", .ref kl), ("way", .int v1 tv1), ("there", .ref e.1)]) (fun e : Addr × List Value => (e.1, LCg.lst e.2) :: (I, oi) :: (kl, listO (refsS c.sy) c.nk) :: (rw, listO c.rv c.nw) :: (bd, c.od) :: (rl, listO (refsS c.sy) c.nr) :: (tb, instObj 127 td) :: (td, tabD w rl bd ta1 ta2) :: (L' + 1 + 1, oT) :: (L' + 1, oR) :: (dk, listO [.ref ia, .int k1 t1'] n1') :: symsLed w c.sy)
          (fun e : Addr × List Value => IntsAre e.2 ((thereL c.ro x c.ro.length).map Int.ofNat) ∧ ∀ p ∈ (I, oi) :: (kl, listO (refsS c.sy) c.nk) :: (rw, listO c.rv c.nw) :: (bd, c.od) :: (rl, listO (refsS c.sy) c.nr) :: (tb, instObj 127 td) :: (td, tabD w rl bd ta1 ta2) :: (L' + 1 + 1, oT) :: (L' + 1, oR) :: (dk, listO [.ref ia, .int k1 t1'] n1') :: symsLed w c.sy, @Ne Nat p.1 e.1) ?th ?rest3
        case th =>
          k_steps
          refine hold_out ?_
          with_unfolding_all refine LCt.CompSrcT.range (by rfl) (by assumption) (by assumption) (by assumption) (small_one (by decide) (by decide) (al62 _) (ar62 hrv1)) (rangeSize_nat _ _) (by rw [PySem.sizeLine_eq, arS]; exact arB hrv1) ?_
          intro g'
          refine comp_invT (fun _ : Unit => (I, oi) :: (kl, listO (refsS c.sy) c.nk) :: (rw, listO c.rv c.nw) :: (bd, c.od) :: (rl, listO (refsS c.sy) c.nr) :: (tb, instObj 127 td) :: (td, tabD w rl bd ta1 ta2) :: (L' + 1 + 1, oT) :: (L' + 1, oR) :: (dk, listO [.ref ia, .int k1 t1'] n1') :: symsLed w c.sy) (fun i ys _ => IntsAre ys ((thereL c.ro x i).map Int.ofNat)) () .nil ?turnT ?finT
          case turnT =>
            rintro i2 v2 ys _ I2 oI C oC D m₂ h tk E' hi3 ⟨t2, rfl⟩ hys hNs hx2 F N off2 hne2
            have hi4 : i2 < c.rv.length := by rw [arS] at hi3; exact hi3
            k_steps
            refine hold_out ?_
            rcases TIc.hrv.at hi4 with ⟨e1, e2⟩ | ⟨x', t', e1, e2⟩
            · refine sub_pos (News.isList (by assumption) (by k_mem)) (arz i2) (arz63 (Nat.le_of_lt (Nat.lt_of_lt_of_le hi4 hrv1))) (x := .none) (by rw [arzN]; exact e1) ?_
              k_steps
              exact CompE.mk () (by assumption) (by assumption) (fun _ q => q) off2 trivial (by rw [thereL_succ, e2]; simpa using hys)
            · refine sub_pos (News.isList (by assumption) (by k_mem)) (arz i2) (arz63 (Nat.le_of_lt (Nat.lt_of_lt_of_le hi4 hrv1))) (x := .str x' t') (by rw [arzN]; exact e1) ?_
              k_steps
              · have e : x' = x := eq_of_beq (by assumption)
                exact CompE.mk () (by assumption) (by assumption) (fun _ q => q) off2 trivial (by rw [thereL_succ, if_pos (by rw [e2, e]), List.map_append, show (0 + (i2 : Int)) = Int.ofNat i2 by simp]; exact hys.append (.cons _ _ .nil))
              · have e : ¬ x' = x := fun q => by first | exact absurd (show (x' == x) = true by rw [q]; exact beq_self_eq_true _) ‹¬ (x' == x) = true› | (have z := ‹(x' == x) = false›; rw [q, beq_self_eq_true] at z; cases z)
                exact CompE.mk () (by assumption) (by assumption) (fun _ q => q) off2 trivial (by rw [thereL_succ, if_neg (by rw [e2]; simpa using e), List.append_nil]; exact hys)
          case finT =>
            rintro ys2 _ hys
            intro D2 h2 tk2 F2 N2 off2
            rw [arS, hrvl, ← TIc.hro] at hys
            exact MidP.mk (D2, ys2) F2 N2 (fun _ q => q) (by walk_at "Mps") ⟨hys, Off1.mem off2⟩
        case rest3 =>
          clear F N
          rintro ⟨D3, ys⟩ u h tk ⟨hys, offD⟩ _ F N
          simp only at hys offD F N
          have hkv0 := TIc.hkv x
          have hrs : (refsS c.sy).length ≤ 100 := by rw [refsS_len]; exact hsy1
          have hkl2 : c.kvs.length ≤ 100 := Nat.le_trans TIc.hkl hsy1
          have hn2 : @Ne Nat td rl ∧ @Ne Nat td bd ∧ @Ne Nat tb rl ∧ @Ne Nat tb bd ∧ @Ne Nat rl bd := by omega
          have hE0 : IntsAre [] [] := .nil
          have osk : ∀ p ∈ symsLed w c.sy, @Ne Nat p.1 kl := fun p hp => (off p hp).1
          have osr : ∀ p ∈ symsLed w c.sy, @Ne Nat p.1 rw := fun p hp => (off p hp).2.1
          have oz : ∀ z : Addr, (∀ p ∈ (D3, LCg.lst ys) :: (I, oi) :: (kl, listO (refsS c.sy) c.nk) :: (rw, listO c.rv c.nw) :: (bd, c.od) :: (rl, listO (refsS c.sy) c.nr) :: (tb, instObj 127 td) :: (td, tabD w rl bd ta1 ta2) :: (L' + 1 + 1, oT) :: (L' + 1, oR) :: (dk, listO [.ref ia, .int k1 t1'] n1') :: symsLed w c.sy, @Ne Nat p.1 z) → (@Ne Nat z kl ∧ @Ne Nat z rw ∧ @Ne Nat z bd ∧ @Ne Nat z rl ∧ @Ne Nat z tb ∧ @Ne Nat z td ∧ @Ne Nat z (L' + 1 + 1) ∧ @Ne Nat z (L' + 1) ∧ @Ne Nat z dk) ∧ @Ne Nat z I := fun z H => ⟨⟨Ne.symm (H (kl, _) (.tail _ (.tail _ (.head _)))), Ne.symm (H (rw, _) (.tail _ (.tail _ (.tail _ (.head _))))), Ne.symm (H (bd, _) (.tail _ (.tail _ (.tail _ (.tail _ (.head _)))))), Ne.symm (H (rl, _) (.tail _ (.tail _ (.tail _ (.tail _ (.tail _ (.head _))))))), Ne.symm (H (tb, _) (.tail _ (.tail _ (.tail _ (.tail _ (.tail _ (.tail _ (.head _)))))))), Ne.symm (H (td, _) (.tail _ (.tail _ (.tail _ (.tail _ (.tail _ (.tail _ (.tail _ (.head _))))))))), Ne.symm (H (L' + 1 + 1, _) (.tail _ (.tail _ (.tail _ (.tail _ (.tail _ (.tail _ (.tail _ (.tail _ (.head _)))))))))), Ne.symm (H (L' + 1, _) (.tail _ (.tail _ (.tail _ (.tail _ (.tail _ (.tail _ (.tail _ (.tail _ (.tail _ (.head _))))))))))), Ne.symm (H (dk, _) (.tail _ (.tail _ (.tail _ (.tail _ (.tail _ (.tail _ (.tail _ (.tail _ (.tail _ (.tail _ (.head _))))))))))))⟩, Ne.symm (H (I, _) (.tail _ (.head _)))⟩
          have hv : v1 = 0 ∨ v1 = 1 ∨ v1 = 2 ∨ v1 = 3 := by omega
          refine execs_mid (h₀ := g) (L := L') (fun e : TS => [("deck", .ref dk), ("table", .ref tb), ("known", .ref kl)]) (fun e : TS => (I, oi) :: (kl, listO (refsS e.sy) e.nk) :: (rw, listO e.rv e.nw) :: (bd, e.od) :: (rl, listO (refsS e.sy) e.nr) :: (tb, instObj 127 td) :: (td, tabD w rl bd ta1 ta2) :: (L' + 1 + 1, e.oT) :: (L' + 1, oR) :: (dk, listO [.ref ia, .int e.k e.t] e.n) :: symsLed w e.sy)
            (fun e : TS => TI w e ∧ e.sy.length ≤ i + 1 ∧ e.k = k1 ∧ ∀ p ∈ symsLed w e.sy, (@Ne Nat p.1 kl ∧ @Ne Nat p.1 rw ∧ @Ne Nat p.1 bd ∧ @Ne Nat p.1 rl ∧ @Ne Nat p.1 tb ∧ @Ne Nat p.1 td ∧ @Ne Nat p.1 (L' + 1 + 1) ∧ @Ne Nat p.1 (L' + 1) ∧ @Ne Nat p.1 dk) ∧ @Ne Nat p.1 I) ?deed ?rest4
          case deed =>
            rcases hv with rfl | rfl | hv
            · cases hth : thereL c.ro x c.ro.length with
              | nil =>
                rw [hth] at hys hkv0
                simp only [List.head?_nil, Option.map_none] at hkv0
                cases hys
                k_steps
                refine hold_out ?_
                refine CallOk.use (D := 3) (U := 60) (ks := [(tb, instObj 127 td), (td, tabD w rl bd ta1 ta2), (rl, listO (refsS c.sy) c.nr), (bd, c.od)]) (find_ok tb td rl bd ta1 ta2 (refsS c.sy) c.nr c.od c.kvs x tx _ TIc.hdict lo hrs hkv0 ?_) (by assumption) (by assumption) (by assumption) (News.sub (by assumption) (by walk_at "Mall")) (by assumption) rfl (by ktr_room) (by ktr_units)
                intro h5 tk5 S5
                obtain ⟨F5, N5⟩ := call_pure (by assumption) (by assumption) S5
                simp only [Option.getD_none]
                k_steps
                exact MidP.mk (⟨c.sy, c.ro, c.rv, c.nk, c.nr, c.nw, c.od, c.kvs, oT, _, k1, t1', n1'⟩ : TS) (by assumption) (by assumption) (fun p hp => by repeat (first | exact hp | refine List.Mem.tail _ ?_)) (by walk_at "Mps") ⟨TIc.same _ _ _ _ _ hoT1 _ _ _, by (try dsimp only); omega, rfl, fun p hp => ⟨off p hp, bsy p hp⟩⟩
              | cons j r =>
                rw [hth] at hys hkv0
                simp only [List.head?_cons, Option.map_some] at hkv0
                have hj := (thereL_mem (show j ∈ thereL c.ro x c.ro.length by rw [hth]; exact List.mem_cons_self)).1
                have hjx := (thereL_mem (show j ∈ thereL c.ro x c.ro.length by rw [hth]; exact List.mem_cons_self)).2
                rw [TIc.hro] at hj
                obtain ⟨tj, ys', rfl, hys'⟩ : ∃ tj ys', ys = .int (j : Int) tj :: ys' ∧ IntsAre ys' (r.map Int.ofNat) := by
                  cases hys with
                  | cons _ tj h => exact ⟨tj, _, rfl, h⟩
                clear hys hE0 hys'
                k_steps
                refine hold_out ?_
                refine CallOk.use (D := 3) (U := 60) (ks := [(tb, instObj 127 td), (td, tabD w rl bd ta1 ta2), (rl, listO (refsS c.sy) c.nr), (bd, c.od)]) (find_ok tb td rl bd ta1 ta2 (refsS c.sy) c.nr c.od c.kvs x tx _ TIc.hdict lo hrs hkv0 ?_) (by assumption) (by assumption) (by assumption) (News.sub (by assumption) (by walk_at "Mall")) (by assumption) rfl (by ktr_room) (by ktr_units)
                intro h5 tk5 S5
                obtain ⟨F5, N5⟩ := call_pure (by assumption) (by assumption) S5
                simp only [Option.getD_some]
                k_steps
                refine hold_out ?_
                refine CallOk.use (D := 3) (U := 60) (ks := [(tb, instObj 127 td), (td, tabD w rl bd ta1 ta2), (rl, listO (refsS c.sy) c.nr), (bd, c.od)]) (find_ok tb td rl bd ta1 ta2 (refsS c.sy) c.nr c.od c.kvs x tx _ TIc.hdict lo hrs hkv0 ?_) (by assumption) (by assumption) (by assumption) (News.sub (by assumption) (by walk_at "Mall")) (by assumption) rfl (by ktr_room) (by ktr_units)
                intro h6 tk6 S6
                obtain ⟨F6, N6⟩ := call_pure (by assumption) (by assumption) S6
                simp only [Option.getD_some]
                k_steps
                refine hold_out ?_
                refine sub_pos (l := .int (j : Int) tj :: ys') (k := 0) (News.isList (by assumption) (by k_mem)) (by decide) (by decide) (x := .int (j : Int) tj) rfl ?_
                k_steps
                refine hold_out ?_
                refine sub_pos (News.isList (by assumption) (by k_mem)) (ar0 j) (ar63 (Nat.le_of_lt (Nat.lt_of_lt_of_le hj hsy1))) (x := .ref (syA c.sy j)) (by rw [arj]; exact refsS_get hj) ?_
                k_steps
                exact MidP.mk (⟨c.sy, c.ro, c.rv, c.nk, c.nr, c.nw, c.od, c.kvs, oT, _, k1, t1', n1'⟩ : TS) (by assumption) (by assumption) (fun p hp => by repeat (first | exact hp | refine List.Mem.tail _ ?_)) (by walk_at "Mps") ⟨TIc.same _ _ _ _ _ hoT1 _ _ _, by (try dsimp only); omega, rfl, fun p hp => ⟨off p hp, bsy p hp⟩⟩
            · -- [w1
              k_steps
              refine hold_out ?_
              rename Fr _ _ _ _ => F4
              rename News _ _ _ _ => N4
              refine CallOk.use (D := 3) (U := 60) (ks := [(tb, instObj 127 td), (td, tabD w rl bd ta1 ta2), (rl, listO (refsS c.sy) c.nr), (bd, c.od)]) (fresh_ok tb td rl bd ta1 ta2 (refsS c.sy) c.nr c.od c.kvs x tx TIc.hdict lo hrs hkl2 hx (by have := hn2.2.2.2.2; exact this) hn2 ?_) (by assumption) F4 (by assumption) (News.sub N4 (by walk_at "Mall")) (by assumption) rfl (by ktr_room) (by ktr_units)
              intro y yd tn tt' ua ub nr' h5 tk5 S5 hy0 hyd0 hy1 hyd1 hrl
              rw [refsS_len] at hyd1
              have N5 : News g L' h5 ((D3, LCg.lst ys) :: (I, oi) :: (kl, listO (refsS c.sy) c.nk) :: (rw, listO c.rv c.nw) :: (bd, c.od) :: (rl, listO (refsS c.sy ++ [.ref y]) nr') :: (tb, instObj 127 td) :: (td, tabD w rl bd ta1 ta2) :: (L' + 1 + 1, oT) :: (L' + 1, oR) :: (dk, listO [.ref ia, .int k1 t1'] n1') :: symsLed w c.sy) := by
                refine News.upd N4 S5 ?_
                exact Mine.allC (.inl ⟨by k_mem, notin1 (Ne.symm (offD (rl, listO (refsS c.sy) c.nr) (by k_mem)))⟩) (Mine.allC (.inl ⟨by k_mem, notin1 b4.symm⟩) (Mine.allC (.inl ⟨by k_mem, notin1 (by k_ne)⟩) (Mine.allC (.inl ⟨by k_mem, notin1 (by k_ne)⟩) (Mine.allC (.inl ⟨by k_mem, notin1 (by k_ne)⟩) (Mine.allC (.inr ⟨hrl, listO (refsS c.sy) c.nr, by k_mem⟩) (Mine.allC (.inl ⟨by k_mem, notin1 (by k_ne)⟩) (Mine.allC (.inl ⟨by k_mem, notin1 (by k_ne)⟩) (Mine.allC (.inl ⟨by k_mem, notin1 (by k_ne)⟩) (Mine.allC (.inl ⟨by k_mem, notin1 (by k_ne)⟩) (Mine.allC (.inl ⟨by k_mem, notin1 (by k_ne)⟩) (fun p h => .inl ⟨by repeat (first | exact h | refine List.Mem.tail _ ?_), notin1 (off p h).2.2.2.1⟩)))))))))))
              have F5 : Fr g L' h5 _ := Fr.stays F4 S5 (notin1 (Ne.symm (N4 (rl, _) (by k_mem)).2.1)) (fun z hz => by rw [List.mem_singleton.mp hz]; exact News.fresh N4 (o := listO (refsS c.sy) c.nr) (by k_mem))
              have hfy := fresh_ne N4 hy0
              have hfd := fresh_ne N4 hyd0
              have N6 := News.add F4 (News.add F4 N5 hyd1 hyd0) hy1 hy0
              have hkv1 := TIc.none_of_dot x (Str.ofString (toString (c.sy.length : Int)))
              clear N4 F4 S5 N5 hy1 hyd1 hrl hy0 hyd0
              have hrs1 : (refsS c.sy ++ [Value.ref y]).length ≤ 100 := by rw [List.length_append, refsS_len]; simp; omega
              have f1 : @Ne Nat rw y := hfy (rw, listO c.rv c.nw) (by k_mem)
              have f2 : @Ne Nat rw yd := hfd (rw, listO c.rv c.nw) (by k_mem)
              have f3 : @Ne Nat kl y := hfy (kl, listO (refsS c.sy) c.nk) (by k_mem)
              have f4 : @Ne Nat kl yd := hfd (kl, listO (refsS c.sy) c.nk) (by k_mem)
              have g1 : @Ne Nat rw D3 := offD (rw, listO c.rv c.nw) (by k_mem)
              have g2 : @Ne Nat kl D3 := offD (kl, listO (refsS c.sy) c.nk) (by k_mem)
              try dsimp only
              k_steps
              · exfalso
                rename ((_ != _) = true) => q
                rw [slice_pre] at q
                simp at q
              refine hold_out ?_
              refine CallOk.use (D := 3) (U := 60) (ks := [(tb, instObj 127 td), (td, tabD w rl bd ta1 ta2), (rl, listO (refsS c.sy ++ [.ref y]) nr'), (bd, c.od)]) (find_ok tb td rl bd ta1 ta2 (refsS c.sy ++ [.ref y]) nr' c.od c.kvs _ _ _ TIc.hdict lo hrs1 hkv1 ?_) (by assumption) (by assumption) (by assumption) (News.sub (by assumption) (by walk_at "Mall")) (by assumption) rfl (by ktr_room) (by ktr_units)
              intro h7 tk7 S7
              obtain ⟨F7, N7⟩ := call_pure (by assumption) (by assumption) S7
              simp only [Option.getD_none]
              k_steps
              refine hold_out ?_
              refine CallOk.use (D := 3) (U := 60) (ks := [(tb, instObj 127 td), (td, tabD w rl bd ta1 ta2), (rl, listO (refsS c.sy ++ [.ref y]) nr'), (bd, c.od), (y, instObj 64 yd), (yd, symD w c.sy.length tn (Str.empty ++ x ++ Str.ofString "." ++ Str.ofString (toString (c.sy.length : Int))) tt' ua ub)]) (interned_ok tb td rl bd ta1 ta2 (refsS c.sy ++ [.ref y]) nr' c.od c.kvs y yd _ tn _ tt' ua ub _ TIc.hdict lo hrs1 hkv1 (.inl rfl) ?_) (by assumption) (by assumption) (by assumption) (News.sub (by assumption) (by walk_at "Mall")) (by assumption) rfl (by ktr_room) (by ktr_units)
              intro h8 tk8 S8
              obtain ⟨F8, N8⟩ := call_pure (by assumption) (by assumption) S8
              simp only [Option.isSome_none]
              k_steps
              rename News _ _ _ _ => N9
              rename Fr _ _ _ _ => F9
              simp only [List.push_toArray] at N9
              exact MidP.mk (⟨c.sy ++ [⟨y, yd, c.sy.length, tn, _, tt', ua, ub⟩], c.ro ++ [none], c.rv ++ [.none], c.nk + 1, nr', c.nw + 1, c.od, c.kvs, oT, _, k1, t1', n1'⟩ : TS) F9 N9 (by exact Mine.allC (by k_mem) (Mine.allC (by rw [refsS_app]; k_mem) (Mine.allC (by k_mem) (Mine.allC (by k_mem) (Mine.allC (by rw [refsS_app]; k_mem) (Mine.allC (by k_mem) (Mine.allC (by k_mem) (Mine.allC (by k_mem) (Mine.allC (by k_mem) (Mine.allC (by k_mem) (by rw [symsLed_app]; exact allApp (fun p h => by repeat (first | exact h | refine List.Mem.tail _ ?_)) (Mine.allC (by k_mem) (Mine.allC (by k_mem) (List.forall_mem_nil _)))))))))))))) (by walk_at "Mps") ⟨TIc.fresh ⟨y, yd, c.sy.length, tn, _, tt', ua, ub⟩ rfl _ _ _ _ _ hoT1 _ _ _, by simp only [List.length_append, List.length_cons, List.length_nil]; omega, rfl, by rw [symsLed_app]; exact allApp (fun p h => ⟨off p h, bsy p h⟩) (Mine.allC (oz y hfy) (Mine.allC (oz yd hfd) (List.forall_mem_nil _)))⟩
            · cases hth : thereL c.ro x c.ro.length with
              | nil =>
                rw [hth] at hys hkv0
                simp only [List.head?_nil, Option.map_none] at hkv0
                cases hys
                have hv20 : v1 ≠ 0 := by omega
                have hv21 : v1 ≠ 1 := by omega
                clear hv
                k_steps
                refine hold_out ?_
                rename Fr _ _ _ _ => F4
                rename News _ _ _ _ => N4
                refine CallOk.use (D := 3) (U := 60) (ks := [(tb, instObj 127 td), (td, tabD w rl bd ta1 ta2), (rl, listO (refsS c.sy) c.nr), (bd, c.od)]) (symbol_ok tb td rl bd ta1 ta2 (refsS c.sy) c.nr c.od c.kvs x tx none TIc.hdict lo hrs hkl2 hkv0 (.inl rfl) (by have := hn2.2.2.2.2; exact this) hn2 (fun _ _ _ q => by cases q) ?_) (by assumption) F4 (by assumption) (News.sub N4 (by walk_at "Mall")) (by assumption) rfl (by ktr_room) (by ktr_units)
                intro y yd tn tt' ua ub nr' od' h5 tk5 _ S5 hy0 hyd0 hy1 hyd1 hrl hbd hod'
                rw [refsS_len] at hyd1
                have N5 : News g L' h5 ((D3, LCg.lst []) :: (I, oi) :: (kl, listO (refsS c.sy) c.nk) :: (rw, listO c.rv c.nw) :: (bd, od') :: (rl, listO (refsS c.sy ++ [.ref y]) nr') :: (tb, instObj 127 td) :: (td, tabD w rl bd ta1 ta2) :: (L' + 1 + 1, oT) :: (L' + 1, oR) :: (dk, listO [.ref ia, .int k1 t1'] n1') :: symsLed w c.sy) := by
                  refine News.upd N4 S5 ?_
                  exact Mine.allC (.inl ⟨by k_mem, notin2 (Ne.symm (offD (rl, listO (refsS c.sy) c.nr) (by k_mem))) (Ne.symm (offD (bd, c.od) (by k_mem)))⟩) (Mine.allC (.inl ⟨by k_mem, notin2 b4.symm b3.symm⟩) (Mine.allC (.inl ⟨by k_mem, notin2 (by k_ne) (by k_ne)⟩) (Mine.allC (.inl ⟨by k_mem, notin2 (by k_ne) (by k_ne)⟩) (Mine.allC (.inr ⟨hbd, c.od, by k_mem⟩) (Mine.allC (.inr ⟨hrl, listO (refsS c.sy) c.nr, by k_mem⟩) (Mine.allC (.inl ⟨by k_mem, notin2 (by k_ne) (by k_ne)⟩) (Mine.allC (.inl ⟨by k_mem, notin2 (by k_ne) (by k_ne)⟩) (Mine.allC (.inl ⟨by k_mem, notin2 (by k_ne) (by k_ne)⟩) (Mine.allC (.inl ⟨by k_mem, notin2 (by k_ne) (by k_ne)⟩) (Mine.allC (.inl ⟨by k_mem, notin2 (by k_ne) (by k_ne)⟩) (fun p h => .inl ⟨by repeat (first | exact h | refine List.Mem.tail _ ?_), notin2 (off p h).2.2.2.1 (off p h).2.2.1⟩)))))))))))
                have F5 : Fr g L' h5 _ := Fr.stays F4 S5 (notin2 (Ne.symm (N4 (rl, _) (by k_mem)).2.1) (Ne.symm (N4 (bd, _) (by k_mem)).2.1)) (Mine.allC (News.fresh N4 (o := listO (refsS c.sy) c.nr) (by k_mem)) (Mine.allC (News.fresh N4 (o := c.od) (by k_mem)) (List.forall_mem_nil _)))
                have hfy := fresh_ne N4 hy0
                have hfd := fresh_ne N4 hyd0
                have N6 := News.add F4 (News.add F4 N5 hyd1 hyd0) hy1 hy0
                have hkv1 : valueAt (stored c.kvs x (.ref y)) x = some (.ref y) := by rw [stored_absent hkv0, valueAt_app, hkv0]; simp
                clear N4 F4 S5 N5 hy1 hyd1 hrl hy0 hyd0
                have hrs1 : (refsS c.sy ++ [Value.ref y]).length ≤ 100 := by rw [List.length_append, refsS_len]; simp; omega
                have f1 : @Ne Nat rw y := hfy (rw, listO c.rv c.nw) (by k_mem)
                have f2 : @Ne Nat rw yd := hfd (rw, listO c.rv c.nw) (by k_mem)
                have f3 : @Ne Nat kl y := hfy (kl, listO (refsS c.sy) c.nk) (by k_mem)
                have f4 : @Ne Nat kl yd := hfd (kl, listO (refsS c.sy) c.nk) (by k_mem)
                have g1 : @Ne Nat rw D3 := offD (rw, listO c.rv c.nw) (by k_mem)
                have g2 : @Ne Nat kl D3 := offD (kl, listO (refsS c.sy) c.nk) (by k_mem)
                try dsimp only
                k_steps
                refine hold_out ?_
                refine CallOk.use (D := 3) (U := 60) (ks := [(tb, instObj 127 td), (td, tabD w rl bd ta1 ta2), (rl, listO (refsS c.sy ++ [.ref y]) nr'), (bd, od'), (y, instObj 64 yd), (yd, symD w c.sy.length tn x tt' ua ub)]) (interned_ok tb td rl bd ta1 ta2 (refsS c.sy ++ [.ref y]) nr' od' (stored c.kvs x (.ref y)) y yd _ tn _ tt' ua ub _ hod' lo hrs1 hkv1 (.inr rfl) ?_) (by assumption) (by assumption) (by assumption) (News.sub (by assumption) (by walk_at "Mall")) (by assumption) rfl (by ktr_room) (by ktr_units)
                intro h8 tk8 S8
                obtain ⟨F8, N8⟩ := call_pure (by assumption) (by assumption) S8
                simp only [Option.isSome_some]
                k_steps
                · exfalso
                  rename ((x != x) = true) => q
                  simp at q
                rename News _ _ _ _ => N9
                rename Fr _ _ _ _ => F9
                simp only [List.push_toArray] at N9
                exact MidP.mk (⟨c.sy ++ [⟨y, yd, c.sy.length, tn, x, tt', ua, ub⟩], c.ro ++ [some x], c.rv ++ [.str x tx], c.nk + 1, nr', c.nw + 1, od', stored c.kvs x (.ref y), oT, _, k1, t1', n1'⟩ : TS) F9 N9 (by exact Mine.allC (by k_mem) (Mine.allC (by rw [refsS_app]; k_mem) (Mine.allC (by k_mem) (Mine.allC (by k_mem) (Mine.allC (by rw [refsS_app]; k_mem) (Mine.allC (by k_mem) (Mine.allC (by k_mem) (Mine.allC (by k_mem) (Mine.allC (by k_mem) (Mine.allC (by k_mem) (by rw [symsLed_app]; exact allApp (fun p h => by repeat (first | exact h | refine List.Mem.tail _ ?_)) (Mine.allC (by k_mem) (Mine.allC (by k_mem) (List.forall_mem_nil _)))))))))))))) (by walk_at "Mps") ⟨TIc.symbol ⟨y, yd, c.sy.length, tn, x, tt', ua, ub⟩ rfl x tx hdot rfl hth od' hod' _ _ _ _ _ hoT1 _ _ _, by simp only [List.length_append, List.length_cons, List.length_nil]; omega, rfl, by rw [symsLed_app]; exact allApp (fun p h => ⟨off p h, bsy p h⟩) (Mine.allC (oz y hfy) (Mine.allC (oz yd hfd) (List.forall_mem_nil _)))⟩
              | cons j r =>
                rw [hth] at hys hkv0
                simp only [List.head?_cons, Option.map_some] at hkv0
                have hj := (thereL_mem (show j ∈ thereL c.ro x c.ro.length by rw [hth]; exact List.mem_cons_self)).1
                have hjx := (thereL_mem (show j ∈ thereL c.ro x c.ro.length by rw [hth]; exact List.mem_cons_self)).2
                rw [TIc.hro] at hj
                obtain ⟨tj, ys', rfl, hys'⟩ : ∃ tj ys', ys = .int (j : Int) tj :: ys' ∧ IntsAre ys' (r.map Int.ofNat) := by
                  cases hys with
                  | cons _ tj h => exact ⟨tj, _, rfl, h⟩
                clear hys hE0 hys'
                have hv20 : v1 ≠ 0 := by omega
                have hv21 : v1 ≠ 1 := by omega
                clear hv
                k_steps
                refine hold_out ?_
                refine CallOk.use (D := 3) (U := 60) (ks := [(tb, instObj 127 td), (td, tabD w rl bd ta1 ta2), (rl, listO (refsS c.sy) c.nr), (bd, c.od)]) (symbol_ok tb td rl bd ta1 ta2 (refsS c.sy) c.nr c.od c.kvs x tx (some (.ref (syA c.sy j))) TIc.hdict lo hrs hkl2 hkv0 (.inr ⟨_, rfl⟩) (by have := hn2.2.2.2.2; exact this) hn2 ?_ (fun _ _ _ _ _ _ _ _ _ _ q => by cases q)) (by assumption) (by assumption) (by assumption) (News.sub (by assumption) (by walk_at "Mall")) (by assumption) rfl (by ktr_room) (by ktr_units)
                intro y h5 tk5 q S5
                cases q
                obtain ⟨F5, N5⟩ := call_pure (by assumption) (by assumption) S5
                obtain ⟨m1, m2⟩ := syms_at w c.sy j hj
                rw [TIc.htx j hj x hjx] at m2
                try dsimp only
                k_steps
                refine hold_out ?_
                refine sub_pos (l := .int (j : Int) tj :: ys') (k := 0) (News.isList (by assumption) (by k_mem)) (by decide) (by decide) (x := .int (j : Int) tj) rfl ?_
                k_steps
                refine hold_out ?_
                refine sub_pos (News.isList (by assumption) (by k_mem)) (ar0 j) (ar63 (Nat.le_of_lt (Nat.lt_of_lt_of_le hj hsy1))) (x := .ref (syA c.sy j)) (by rw [arj]; exact refsS_get hj) ?_
                k_steps
                refine hold_out ?_
                refine CallOk.use (D := 3) (U := 60) (ks := [(tb, instObj 127 td), (td, tabD w rl bd ta1 ta2), (rl, listO (refsS c.sy) c.nr), (bd, c.od), (syA c.sy j, instObj 64 (c.sy[j]).d), ((c.sy[j]).d, symD w (c.sy[j]).num (c.sy[j]).tn x (c.sy[j]).tt (c.sy[j]).t1 (c.sy[j]).t2)]) (interned_ok tb td rl bd ta1 ta2 (refsS c.sy) c.nr c.od c.kvs _ _ _ _ _ _ _ _ _ TIc.hdict lo hrs hkv0 (.inr rfl) ?_) (by assumption) (by assumption) (by assumption) (News.sub (by assumption) (by intro p hp; simp only [List.mem_cons, List.not_mem_nil, or_false] at hp ⊢; rcases hp with h | h | h | h | h | h <;> simp [h, m1, m2])) (by assumption) rfl (by ktr_room) (by ktr_units)
                intro h8 tk8 S8
                obtain ⟨F8, N8⟩ := call_pure (by assumption) (by assumption) S8
                simp only [Option.isSome_some]
                k_steps
                · exfalso
                  rename ((x != x) = true) => q
                  simp at q
                exact MidP.mk (⟨c.sy, c.ro, c.rv, c.nk, c.nr, c.nw, c.od, c.kvs, oT, _, k1, t1', n1'⟩ : TS) (by assumption) (by assumption) (fun p hp => by repeat (first | exact hp | refine List.Mem.tail _ ?_)) (by walk_at "Mps") ⟨TIc.same _ _ _ _ _ hoT1 _ _ _, by (try dsimp only); omega, rfl, fun p hp => ⟨off p hp, bsy p hp⟩⟩
          case rest4 =>
            clear F N
            rintro ⟨sy, ro, rv, nk, nr, nw, od, kvs, oT2, cv, k2, t2, n2⟩ u h tk ⟨TI2, hlen2, hk2, off2⟩ _ F N
            simp only at hlen2 hk2 off2 F N
            have hrvl2 : rv.length = sy.length := TI2.hrv.length.trans TI2.hro
            have hsy2 : sy.length ≤ 100 := Nat.le_trans hlen2 (Nat.le_trans (Nat.succ_le_of_lt hi3) (by decide))
            have hrv2 : rv.length ≤ 100 := by rw [hrvl2]; exact hsy2
            have hrs2 : (refsS sy).length ≤ 100 := by rw [refsS_len]; exact hsy2
            have hrv8 : rv.length ≤ 8 := by omega
            clear hrs hkl2 hys offD hkv0 osk osr oz hE0 hv
            refine execs_mid (h₀ := g) (L := L') (fun _ : Unit => [("deck", .ref dk), ("table", .ref tb), ("known", .ref kl)]) (fun _ : Unit => (I, oi) :: (kl, listO (refsS sy) nk) :: (rw, listO rv nw) :: (bd, od) :: (rl, listO (refsS sy) nr) :: (tb, instObj 127 td) :: (td, tabD w rl bd ta1 ta2) :: (L' + 1 + 1, oT2) :: (L' + 1, oR) :: (dk, listO [.ref ia, .int k2 t2] n2) :: symsLed w sy) (fun _ => True) ?sizes ?rest5
            case sizes =>
              k_steps
              refine hold_out ?_
              refine CallOk.use (D := 3) (U := 60) (ks := [(tb, instObj 127 td), (td, tabD w rl bd ta1 ta2), (rl, listO (refsS sy) nr), (bd, od)]) (size_ok tb td rl bd ta1 ta2 (refsS sy) nr od kvs TI2.hdict lo hrs2 ?_) (by assumption) (by assumption) (by assumption) (News.sub (by assumption) (by walk_at "Mall")) (by assumption) rfl (by ktr_room) (by ktr_units)
              intro ts h5 tk5 S5
              obtain ⟨F5, N5⟩ := call_pure (by assumption) (by assumption) S5
              rw [refsS_len, ← hrvl2]
              k_steps
              · exfalso
                rename (¬ _ = _) => q
                exact q (by simp)
              refine hold_out ?_
              with_unfolding_all refine LCg.CompSrc.ledger (by rfl) (by assumption) (by assumption) (.tail _ (.head _)) (by rw [List.size_toArray, PySem.sizeLine_eq]; exact arB hrs2) ?_
              intro g'
              refine comp_inv (fun _ : Unit => (I, oi) :: (kl, listO (refsS sy) nk) :: (rw, listO rv nw) :: (bd, od) :: (rl, listO (refsS sy) nr) :: (tb, instObj 127 td) :: (td, tabD w rl bd ta1 ta2) :: (L' + 1 + 1, oT2) :: (L' + 1, oR) :: (dk, listO [.ref ia, .int k2 t2] n2) :: symsLed w sy) (fun i ys _ => IntsAre ys ((List.range i).map Int.ofNat)) () .nil ?turnN ?finN
              case turnN =>
                rintro i3 v3 ys3 _ I3 oI C oC D m₂ h tk E' hi3' hv3 hys hNs hx3 F N offN hneN
                obtain ⟨hj, rfl⟩ := refsS_at hv3
                obtain ⟨m1, m2⟩ := syms_at w sy i3 hj
                rw [TI2.hnum i3 hj] at m2
                k_steps
                exact CompE.mk () (by assumption) (by assumption) (fun _ q => q) offN (.inr ⟨_, .tail _ (.head _), rfl, _, rfl⟩) (by rw [List.range_succ, List.map_append]; exact hys.append (.cons _ _ .nil))
              case finN =>
                rintro ys3 _ hys
                intro D2 h2 tk2 F2 N2 off2'
                rw [List.size_toArray, refsS_len] at hys
                try dsimp only
                k_steps
                refine hold_out ?_
                with_unfolding_all refine kll_range rfl (by assumption) (by assumption) (by assumption) (small_one (by decide) (by decide) (al62 _) (ar62 hrv2)) (rangeSize_nat _ _) (by rw [arS]; exact arB hrv2) ?_
                intro D4 us c4 h4 tk4 F4 N4 lt4 hI4
                have hI5 : IntsAre us ((List.range sy.length).map Int.ofNat) := by
                  have e : rangeKs 0 ((rv.length : Int) - 0).toNat = (List.range sy.length).map Int.ofNat := by
                    unfold rangeKs
                    rw [arS, hrvl2]
                    exact List.map_congr_left fun j _ => by simp
                  rw [← e]; exact hI4
                clear hI4
                try dsimp only
                k_steps
                exact MidP.mk () (by assumption) (by assumption) (fun p hp => by repeat (first | exact hp | refine List.Mem.tail _ ?_)) (by walk_at "Mps") trivial
            case rest5 =>
              clear F N
              rintro _ u h tk _ _ F N
              have hbb : Hold (rv.length ≤ 8 ∧ i < 8 ∧ sy.length ≤ i + 1 ∧ i < (1 + v - 0).toNat) := ⟨hrv8, hi3, hlen2, hi2⟩
              have hrvB : rv.length ≤ 100000 := Nat.le_trans hrv2 (by decide)
              clear hrv8 hi3 hlen2 hi2 hlen
              (k_with "pyIter ref" => refine hold_in ?_)
              k_steps
              k_with_none
              obtain ⟨hrv8, hi3, hlen2, hi2⟩ : rv.length ≤ 8 ∧ i < 8 ∧ sy.length ≤ i + 1 ∧ i < (1 + v - 0).toNat := hbb
              refine hold_out ?_
              with_unfolding_all refine for_range (fun _ : Unit => (I, oi) :: (kl, listO (refsS sy) nk) :: (rw, listO rv nw) :: (bd, od) :: (rl, listO (refsS sy) nr) :: (tb, instObj 127 td) :: (td, tabD w rl bd ta1 ta2) :: (L' + 1 + 1, oT2) :: (L' + 1, oR) :: (dk, listO [.ref ia, .int k2 t2] n2) :: symsLed w sy) (fun _ : Unit => [("deck", .ref dk), ("table", .ref tb), ("known", .ref kl)]) (fun i _ => True) () rfl (by assumption) (small_one (by decide) (by decide) (al62 _) (ar62 hrv2)) (rangeSize_nat _ _) (by assumption) (by assumption) ?psK ?rK ?turnK ?doneK
              case psK => walk_at "Mps"
              case rK => trivial
              case turnK =>
                rintro i4 t4 _ u h tk I4 oi4 hi4 _ hneI4 F N
                have hi5 : i4 < sy.length := by rw [arS, hrvl2] at hi4; exact hi4
                change Fr g L' _ _ at F
                change News g L' _ _ at N
                k_steps
                refine hold_out ?_
                refine CallOk.use (D := 3) (U := 60) (ks := [(tb, instObj 127 td), (td, tabD w rl bd ta1 ta2), (rl, listO (refsS sy) nr), (bd, od)]) (num_ok tb td rl bd ta1 ta2 (refsS sy) nr od kvs _ _ (.ref (syA sy i4)) TI2.hdict lo hrs2 (arm i4) (arm63 (Nat.le_of_lt (Nat.lt_of_lt_of_le hi5 hsy2))) (by rw [armN]; exact refsS_get hi5) ?_) (by assumption) (by assumption) (by assumption) (News.sub (by assumption) (by walk_at "Mall")) (by assumption) rfl (by ktr_room) (by ktr_units)
                intro h5 tk5 S5
                obtain ⟨F5, N5⟩ := call_pure (by assumption) (by assumption) S5
                try dsimp only
                k_steps
                refine hold_out ?_
                refine sub_pos (News.isList (by assumption) (by k_mem)) (arm i4) (arm63 (Nat.le_of_lt (Nat.lt_of_lt_of_le hi5 hsy2))) (x := .ref (syA sy i4)) (by rw [armN]; exact refsS_get hi5) ?_
                k_steps
                exact TurnE.mk () (by assumption) (by assumption) (fun _ q => q) hneI4 (by walk_at "Mps") trivial
              case doneK =>
                rintro _ u h tk _ F N
                try dsimp only
                k_steps
                exact TurnE.mk (⟨sy, ro, rv, nk, nr, nw, od, kvs, oT2, cv, k2, t2, n2⟩ : TS) (by assumption) (by assumption) (fun _ q => q) (Mine.allC b1 (Mine.allC b2 (Mine.allC b3 (Mine.allC b4 (Mine.allC b5 (Mine.allC b6 (Mine.allC b7 (Mine.allC b8 (Mine.allC b9 (fun p h => (off2 p h).2)))))))))) (by walk_at "Mps") ⟨TI2, hlen2, by (try dsimp only); omega, by (try dsimp only); omega, fun p hp => (off2 p hp).1⟩
end Mine
end
section
open PySem PySem.W PyProof.Rows PySem.Calls PySem.Spec PyProof.V
namespace Mine
section
variable {prog : Program} {w : World} {A : Around} {E : Value → Shared → Prop} {s : Shared} {h₀ : Heap} {L : Addr} {m : Str → Option Value} {env : Env}
/-- a comprehension over a text: where its walk goes on -/
def StrSrc (prog : Program) (w : World) (A : Around) (h₀ : Heap) (L : Addr) (m : Str → Option Value) (env : Env) (elt : Expr) (x : Str) (scope : Scope) (cl : List (Str × Addr)) (Fin : Shared → List Value → List (Addr × Obj) → Prop) (xv : Value) (s₁ : Shared) : Prop :=
  ∃ y t news, xv = .str y t ∧ A.handled = none ∧ Fr h₀ L s₁.heap m ∧ News h₀ L s₁.heap news ∧ y.cps.all (· < 128) = true ∧ y.cps.size ≤ sizeLine ∧
    ∀ g : Heap, LCg.CompRest prog w A h₀ L m env elt x scope cl { s₁ with heap := g } (fun _ => True) (SignAt y) (Fin { s₁ with heap := g }) y.cps.size 0 [] news
theorem ListComp_S {elt iter : Expr} {x : Str} {px : Pos} {scope : Scope} {cl : List (Str × Addr)} {pos : Pos} {Q : Value → Shared → Prop} (F₀ : Fr h₀ L s.heap m)
    (hclos : closureFor scope env = pure cl) (hcell : ∀ y ∈ scope.names, y.2 ≠ .cell) (hkind : scope.kind = .function)
    (hnames : ∀ y ∈ scope.names, y.2 = .local → scope.names.lookup y.1 = some .local) (hx : scope.names.lookup x = some .local)
    (h : wpAny (model prog w) A (eval iter env) (StrSrc prog w A h₀ L m env elt x scope cl (fun s₂ => LCg.FinE h₀ L m s₂ Q)) E s)
    (hs : ∀ x, foldedSetIterable iter env x = pure x := by intro _; rfl) :
    wpAny (model prog w) A (eval (.ListComp elt [⟨.Name x px, iter, [], 0⟩] scope pos) env) Q E s := by
  rw [eval_ListComp]
  refine wpAny_comprehension_free (use := none) rfl hs hclos hkind hnames (wpAny_mono h (fun xv s₁ h₁ => ?_) fun _ _ e => e)
  obtain ⟨y, t, news, rfl, hh, F, N, hasc, hsz, R⟩ := h₁
  refine wpAny_pyIter_ascii hasc ?_
  refine LCg.block_U (St := fun i h => h.IsStrIter s₁.heap.objs.size "str_ascii_iterator" y t i) (S := fun _ => True) (Walks.strAscii hh s₁.heap.objs.size y t) hsz (fun i h st => by obtain ⟨o, e, _⟩ := st; exact ⟨o, e⟩)
    (fun i h h' o nw st e e' _ _ _ => by obtain ⟨o', q, r⟩ := st; rw [e] at q; cases q; exact ⟨o, e', r⟩) hcell hkind hx ⟨_, Heap.get?_push_size _ rfl, rfl, rfl⟩ (fun b hb => ?_)
    (F.keeps fun _ _ e => Heap.get?_push_of_some _ e) (N.grown fun _ _ e => Heap.get?_push_of_some _ e) (Nat.ne_of_lt F.ns.lt) (next_is_new F) (fun p hp => Nat.ne_of_lt (Heap.lt_size (N p hp).1)) trivial (R _) ?_
  · rw [List.mem_singleton.mp hb]
    show s₁.heap.objs.size < (s₁.heap.push _).objs.size
    rw [Heap.size_push]; exact Nat.lt_succ_self _
  · intro D C h tk m' ys news' F' N' o1 hn hC₀ hD₀ hCL hDL hCD offC fin
    refine ⟨m', hn, fun h'' hs'' => fin D h'' tk (F'.change hs'' hCL hC₀) (fun p hp => ?_) o1⟩
    have hne : p.1 ≠ C := by
      rcases List.mem_cons.mp hp with rfl | hp
      · exact Ne.symm hCD
      · exact offC p hp
    exact ⟨hs''.extBut _ _ hne (N' p hp).1, (N' p hp).2⟩
theorem exec_mid {σ : Type} {M : Model} {t : Sem Flow} {Q : Flow → Shared → Prop} (ps : σ → List (Str × Value)) (Led : σ → List (Addr × Obj)) (R : σ → Prop) (h1 : wpAny M A t (MidP h₀ L s ps Led R) E s)
    (h2 : ∀ c (u : Str → Option Value) h tk, R c → s.toks ≤ tk → Fr h₀ L h (kstB u (ps c)) → News h₀ L h (Led c) → Q .next { s with heap := h, toks := tk }) : wpAny M A t Q E s := by
  refine wpAny_grow (wpAny_mono h1 (fun f s' z hg => ?_) fun _ _ e => e)
  obtain ⟨rfl, c, h, tk, m, rfl, hr, F, N, hp⟩ := z
  exact h2 c m h tk hr hg.1 (frOver _ F hp) N
end
end Mine
end
section
open PySem PySem.W PyProof.Rows PySem.Calls PySem.Spec PyProof.V
namespace Mine
abbrev textD (w : World) (cl : Addr) (t1 : Tok) : Obj := dictOf [⟨PyData.keyHash w.params "codes", .str "codes" t1, .ref cl⟩] 1
def chS (m : Int) : Str := ⟨#[m.toNat]⟩
def joinedS (ms : List Int) : Str := Txt.join (Str.ofString "") (ms.map chS)
theorem join_cps : ∀ ms : List Int, (Str.join (Str.ofString "") (ms.map chS)).cps.toList = ms.map Int.toNat
  | [] => rfl
  | [a] => rfl
  | a :: b :: r => by
    have ih := join_cps (b :: r)
    show ((chS a ++ Str.ofString "") ++ Str.join (Str.ofString "") ((b :: r).map chS)).cps.toList = _
    rw [Str.cps_append, Array.toList_append, ih, Str.cps_append, Array.toList_append]
    rfl
theorem joinedS_cps (ms : List Int) : (joinedS ms).cps.toList = ms.map Int.toNat := by
  have e : joinedS ms = Str.join (Str.ofString "") (ms.map chS) := StrLaws.glued_eq_join _ _
  rw [e, join_cps]
theorem joinedS_size (ms : List Int) : (joinedS ms).cps.size = ms.length := by
  have := congrArg List.length (joinedS_cps ms)
  simpa using this
theorem joinedS_at {ms : List Int} {i : Nat} {c : Nat} (h : (joinedS ms).cps[i]? = some c) : ∃ hi : i < ms.length, c = (ms[i]).toNat := by
  have e : (joinedS ms).cps.toList[i]? = some c := by rw [Array.getElem?_toList]; exact h
  rw [joinedS_cps, List.getElem?_map] at e
  obtain ⟨a, ha, rfl⟩ := Option.map_eq_some_iff.mp e
  obtain ⟨hi, q⟩ := List.getElem?_eq_some_iff.mp ha
  exact ⟨hi, by rw [q]⟩
theorem joinedS_asc {ms : List Int} (hm : ∀ m ∈ ms, 32 ≤ m ∧ m < 122) : (joinedS ms).cps.all (· < 128) = true := by
  rw [← Array.all_toList, joinedS_cps, List.all_map, List.all_eq_true]
  intro m h
  have := hm m h
  simp only [Function.comp, decide_eq_true_eq]
  omega
theorem ints_at {vs : List Value} {ms : List Int} (h : IntsAre vs ms) : ∀ {i : Nat} {v : Value}, vs[i]? = some v → ∃ (hi : i < ms.length) (t : Tok), v = .int (ms[i]) t := by
  induction h with
  | nil => intro i v h; simp at h
  | cons n t _ ih =>
    intro i v h
    cases i with
    | zero => simp at h; exact ⟨by simp, t, h.symm⟩
    | succ i => obtain ⟨hi, t', e⟩ := ih (by simpa using h); exact ⟨by simpa using hi, t', e⟩
theorem take_snoc {ms : List Int} {i : Nat} (h : i < ms.length) : ms.take (i + 1) = ms.take i ++ [ms[i]] := by
  rw [List.take_add_one, List.getElem?_eq_getElem h]; rfl
theorem join_S {prog : Program} {w : World} {A : Around} {E : Value → Shared → Prop} {s : Shared} {t : Tok} {Q : Value → Shared → Prop} {D : Addr} {ys : List Value} {ms : List Int} (hl : s.heap.IsList D ys.toArray) (hc : StrsAre ys (ms.map chS)) (hn : ms.length ≤ 1000)
    (h : ∀ t' k, Q (.str (joinedS ms) t') { s with toks := k }) : wpAny (model prog w) A (call (.builtin "str.join") [.str (Str.ofString "") t, .ref D]) Q E s := by
  have hc2 := hc.carried
  rw [List.map_map] at hc2
  exact KT.join_1 (l := ms) (g := chS) hl hc2 (fun _ _ => rfl) (by omega) fun t' k _ => h t' k
theorem ptext_ok {w : World} {s : Shared} {Q : Value → Shared → Prop} (x xd cl : Addr) (t1 : Tok) (vs : List Value) (ms : List Int) (n : Nat)
   (hi : IntsAre vs ms) (hm : ∀ m ∈ ms, 32 ≤ m ∧ m < 122) (hl : ms.length ≤ 4)
   (ret : ∀ t h' tk', Stays [] s.heap h' → Q (.str (joinedS ms) t) { s with heap := h', toks := tk' }) :
   CallOk 3 60 w 328 [.ref x] [(x, instObj 190 xd), (xd, textD w cl t1), (cl, listO vs n)] s Q := by
  intro p loose mean mg mb dp un gd cn cs a ccd cl' outer A₀ base h₀ L m E B F X N T hk hdp hun
  revert X; k_fill; intro X
  refine wpAny_call (enterH (K := Mine.K w.params) (binds := [("text", .ref x)]) B F X N T rfl rfl hk (by k_is) (by k_is) (by ktr_room) (BindsTo.of_eq rfl) (locs rfl) ?_ rfl rfl rfl (by decide))
  intro g L' h' hg1 hg2 F' N' B' X' T' l1
  have bk : ∀ p ∈ [(x, instObj 190 xd), (xd, textD w cl t1), (cl, listO vs n)], s.heap.get? p.1 = some p.2 := fun p hp => (N p hp).1
  clear F N B X T hg2
  try dsimp only
  try k_fold
  k_steps
  refine hold_out ?_
  have hlen := hi.length
  with_unfolding_all refine LCg.CompSrc.ledger (by rfl) (by assumption) (by assumption) (.tail _ (.tail _ (.head _))) (by rw [List.size_toArray, PySem.sizeLine_eq]; omega) ?_
  intro g'
  refine comp_inv (fun _ : Unit => [(x, instObj 190 xd), (xd, textD w cl t1), (cl, listO vs n)]) (fun i ys _ => StrsAre ys ((ms.take i).map chS)) () .nil ?turn ?fin
  case turn =>
    rintro i v ys _ I oI C oC D m₂ h tk E' hi2 hv hys hNs hx F N off hne2
    obtain ⟨hj, t0, rfl⟩ := ints_at hi (by simpa using hv)
    obtain ⟨hm1, hm2⟩ := hm _ (List.getElem_mem hj)
    k_steps
    exact CompE.mk () (by assumption) (by assumption) (fun _ q => q) off (.inr ⟨_, .tail _ (.tail _ (.head _)), rfl, _, rfl⟩) (by rw [take_snoc hj, List.map_append]; exact kct_snoc hys)
  case fin =>
    rintro ys _ hys
    intro D h tk F N off
    rw [List.size_toArray, hlen, List.take_length] at hys
    try dsimp only
    k_steps
    refine hold_out ?_
    refine join_S (News.isList (by assumption) (by k_mem)) hys (by omega) ?_
    intro t' k'
    exact ret _ _ _ (Stays.back (hg1.done (by assumption)) bk (fun p hp => News.at (by assumption) (.tail _ hp)))
local macro_rules | `(tactic| walk_at "eval ListComp") => `(tactic| (k_here; k_dflt (refine ListComp_S (F₀ := by k_asm) (by rfl) (by decide) (by rfl) (by decide) (by rfl) ?_)))
theorem mtext_ok {w : World} {s : Shared} {Q : Value → Shared → Prop} (ms : List Int) (t : Tok)
   (hm : ∀ m ∈ ms, 32 ≤ m ∧ m < 122) (hl : ms.length ≤ 4)
   (ret : ∀ x xd cl t1 vs n h' tk', Stays [] s.heap h' → IntsAre vs ms → (∀ p ∈ [(x, instObj 190 xd), (xd, textD w cl t1), (cl, W.listOf vs.toArray n)], h'.get? p.1 = some p.2 ∧ s.heap.get? p.1 = none) → Q (.ref x) { s with heap := h', toks := tk' }) :
   CallOk 3 60 w 323 [.str (joinedS ms) t] [] s Q := by
  intro p loose mean mg mb dp un gd cn cs a ccd cl' outer A₀ base h₀ L m E B F X N T hk hdp hun
  revert X; k_fill; intro X
  refine wpAny_call (enterH (K := Mine.K w.params) (binds := [("told", .str (joinedS ms) t)]) B F X N T rfl rfl hk (by k_is) (by k_is) (by ktr_room) (BindsTo.of_eq rfl) (locs rfl) ?_ rfl rfl rfl (by decide))
  intro g L' h' hg1 hg2 F' N' B' X' T' l1
  clear F N B X T hg2
  try dsimp only
  try k_fold
  k_steps
  refine ⟨joinedS ms, t, [], rfl, rfl, by assumption, by assumption, joinedS_asc hm, by rw [joinedS_size, PySem.sizeLine_eq]; omega, ?_⟩
  intro g'
  refine comp_inv (fun _ : Unit => []) (fun i ys _ => IntsAre ys (ms.take i)) () .nil ?turn2 ?fin2
  case turn2 =>
    rintro i v ys _ I oI C oC D m₂ h tk E' hi2 ⟨c, u, hc, rfl⟩ hys hNs hx F N off hne2
    obtain ⟨hj, rfl⟩ := joinedS_at hc
    obtain ⟨hm1, hm2⟩ := hm _ (List.getElem_mem hj)
    k_steps
    exact CompE.mk () (by assumption) (by assumption) (fun _ q => q) off trivial (by rw [take_snoc hj, Int.toNat_of_nonneg (by omega)]; exact hys.append (.cons _ _ .nil))
  case fin2 =>
    rintro ys _ hys
    intro D h tk F N off
    rw [joinedS_size, List.take_length] at hys
    try dsimp only
    k_steps
    rename News _ _ _ _ => N9
    exact ret _ _ _ _ _ _ _ _ (hg1.done (by assumption)) hys (fun p hp => ⟨(N9 p hp).1, none_stays hg1 (N9 p hp).2.2 (by simp)⟩)
end Mine
end
section
open PySem PySem.W PyProof.Rows PySem.Calls PySem.Spec PyProof.V
namespace Mine
theorem kind_b0 {w : World} {s : Shared} {Q : Value → Shared → Prop} (ret : ∀ t h' tk', Stays [] s.heap h' → Q (.str "boolean" t) { s with heap := h', toks := tk' }) :
   CallOk 3 60 w 392 [.bool false] [] s Q := by
  intro p loose mean mg mb dp un gd cn cs a ccd cl outer A₀ base h₀ L m E B F X N T hk hdp hun
  revert X; k_fill; intro X
  refine wpAny_call (enterH (K := Mine.K w.params) (binds := [("datum", .bool false)]) B F X N T rfl rfl hk (by k_is) (by k_is) (by ktr_room) (BindsTo.of_eq rfl) (locs rfl) ?_ rfl rfl rfl (by decide))
  intro g L' h' hg1 hg2 F' N' B' X' T' l1
  clear F N B X T hg2
  try dsimp only
  try k_fold
  k_steps
  exact ret _ _ _ (hg1.done (by assumption))
theorem true_b0 {w : World} {s : Shared} {Q : Value → Shared → Prop} (ret : ∀ h' tk', Stays [] s.heap h' → Q (.bool false) { s with heap := h', toks := tk' }) :
   CallOk 3 60 w 371 [.bool false] [] s Q := by
  intro p loose mean mg mb dp un gd cn cs a ccd cl outer A₀ base h₀ L m E B F X N T hk hdp hun
  revert X; k_fill; intro X
  refine wpAny_call (enterH (K := Mine.K w.params) (binds := [("datum", .bool false)]) B F X N T rfl rfl hk (by k_is) (by k_is) (by ktr_room) (BindsTo.of_eq rfl) (locs rfl) ?_ rfl rfl rfl (by decide))
  intro g L' h' hg1 hg2 F' N' B' X' T' l1
  clear F N B X T hg2
  try dsimp only
  try k_fold
  k_steps
  exact ret _ _ (hg1.done (by assumption))
theorem boolean_b0 {w : World} {s : Shared} {Q : Value → Shared → Prop} (ret : ∀ h' tk', Stays [] s.heap h' → Q (.bool true) { s with heap := h', toks := tk' }) :
   CallOk 3 60 w 364 [.bool false] [] s Q := by
  intro p loose mean mg mb dp un gd cn cs a ccd cl outer A₀ base h₀ L m E B F X N T hk hdp hun
  revert X; k_fill; intro X
  refine wpAny_call (enterH (K := Mine.K w.params) (binds := [("datum", .bool false)]) B F X N T rfl rfl hk (by k_is) (by k_is) (by ktr_room) (BindsTo.of_eq rfl) (locs rfl) ?_ rfl rfl rfl (by decide))
  intro g L' h' hg1 hg2 F' N' B' X' T' l1
  clear F N B X T hg2
  try dsimp only
  try k_fold
  k_steps
  exact ret _ _ (hg1.done (by assumption))
theorem whole_b0 {w : World} {s : Shared} {Q : Value → Shared → Prop} (ret : ∀ h' tk', Stays [] s.heap h' → Q (.bool false) { s with heap := h', toks := tk' }) :
   CallOk 3 60 w 378 [.bool false] [] s Q := by
  intro p loose mean mg mb dp un gd cn cs a ccd cl outer A₀ base h₀ L m E B F X N T hk hdp hun
  revert X; k_fill; intro X
  refine wpAny_call (enterH (K := Mine.K w.params) (binds := [("datum", .bool false)]) B F X N T rfl rfl hk (by k_is) (by k_is) (by ktr_room) (BindsTo.of_eq rfl) (locs rfl) ?_ rfl rfl rfl (by decide))
  intro g L' h' hg1 hg2 F' N' B' X' T' l1
  clear F N B X T hg2
  try dsimp only
  try k_fold
  k_steps
  exact ret _ _ (hg1.done (by assumption))
theorem symbol_b0 {w : World} {s : Shared} {Q : Value → Shared → Prop} (ret : ∀ h' tk', Stays [] s.heap h' → Q (.bool false) { s with heap := h', toks := tk' }) :
   CallOk 3 60 w 385 [.bool false] [] s Q := by
  intro p loose mean mg mb dp un gd cn cs a ccd cl outer A₀ base h₀ L m E B F X N T hk hdp hun
  revert X; k_fill; intro X
  refine wpAny_call (enterH (K := Mine.K w.params) (binds := [("datum", .bool false)]) B F X N T rfl rfl hk (by k_is) (by k_is) (by ktr_room) (BindsTo.of_eq rfl) (locs rfl) ?_ rfl rfl rfl (by decide))
  intro g L' h' hg1 hg2 F' N' B' X' T' l1
  clear F N B X T hg2
  try dsimp only
  try k_fold
  k_steps
  exact ret _ _ (hg1.done (by assumption))
theorem kind_b1 {w : World} {s : Shared} {Q : Value → Shared → Prop} (ret : ∀ t h' tk', Stays [] s.heap h' → Q (.str "boolean" t) { s with heap := h', toks := tk' }) :
   CallOk 3 60 w 392 [.bool true] [] s Q := by
  intro p loose mean mg mb dp un gd cn cs a ccd cl outer A₀ base h₀ L m E B F X N T hk hdp hun
  revert X; k_fill; intro X
  refine wpAny_call (enterH (K := Mine.K w.params) (binds := [("datum", .bool true)]) B F X N T rfl rfl hk (by k_is) (by k_is) (by ktr_room) (BindsTo.of_eq rfl) (locs rfl) ?_ rfl rfl rfl (by decide))
  intro g L' h' hg1 hg2 F' N' B' X' T' l1
  clear F N B X T hg2
  try dsimp only
  try k_fold
  k_steps
  exact ret _ _ _ (hg1.done (by assumption))
theorem true_b1 {w : World} {s : Shared} {Q : Value → Shared → Prop} (ret : ∀ h' tk', Stays [] s.heap h' → Q (.bool true) { s with heap := h', toks := tk' }) :
   CallOk 3 60 w 371 [.bool true] [] s Q := by
  intro p loose mean mg mb dp un gd cn cs a ccd cl outer A₀ base h₀ L m E B F X N T hk hdp hun
  revert X; k_fill; intro X
  refine wpAny_call (enterH (K := Mine.K w.params) (binds := [("datum", .bool true)]) B F X N T rfl rfl hk (by k_is) (by k_is) (by ktr_room) (BindsTo.of_eq rfl) (locs rfl) ?_ rfl rfl rfl (by decide))
  intro g L' h' hg1 hg2 F' N' B' X' T' l1
  clear F N B X T hg2
  try dsimp only
  try k_fold
  k_steps
  exact ret _ _ (hg1.done (by assumption))
theorem boolean_b1 {w : World} {s : Shared} {Q : Value → Shared → Prop} (ret : ∀ h' tk', Stays [] s.heap h' → Q (.bool true) { s with heap := h', toks := tk' }) :
   CallOk 3 60 w 364 [.bool true] [] s Q := by
  intro p loose mean mg mb dp un gd cn cs a ccd cl outer A₀ base h₀ L m E B F X N T hk hdp hun
  revert X; k_fill; intro X
  refine wpAny_call (enterH (K := Mine.K w.params) (binds := [("datum", .bool true)]) B F X N T rfl rfl hk (by k_is) (by k_is) (by ktr_room) (BindsTo.of_eq rfl) (locs rfl) ?_ rfl rfl rfl (by decide))
  intro g L' h' hg1 hg2 F' N' B' X' T' l1
  clear F N B X T hg2
  try dsimp only
  try k_fold
  k_steps
  exact ret _ _ (hg1.done (by assumption))
theorem whole_b1 {w : World} {s : Shared} {Q : Value → Shared → Prop} (ret : ∀ h' tk', Stays [] s.heap h' → Q (.bool false) { s with heap := h', toks := tk' }) :
   CallOk 3 60 w 378 [.bool true] [] s Q := by
  intro p loose mean mg mb dp un gd cn cs a ccd cl outer A₀ base h₀ L m E B F X N T hk hdp hun
  revert X; k_fill; intro X
  refine wpAny_call (enterH (K := Mine.K w.params) (binds := [("datum", .bool true)]) B F X N T rfl rfl hk (by k_is) (by k_is) (by ktr_room) (BindsTo.of_eq rfl) (locs rfl) ?_ rfl rfl rfl (by decide))
  intro g L' h' hg1 hg2 F' N' B' X' T' l1
  clear F N B X T hg2
  try dsimp only
  try k_fold
  k_steps
  exact ret _ _ (hg1.done (by assumption))
theorem symbol_b1 {w : World} {s : Shared} {Q : Value → Shared → Prop} (ret : ∀ h' tk', Stays [] s.heap h' → Q (.bool false) { s with heap := h', toks := tk' }) :
   CallOk 3 60 w 385 [.bool true] [] s Q := by
  intro p loose mean mg mb dp un gd cn cs a ccd cl outer A₀ base h₀ L m E B F X N T hk hdp hun
  revert X; k_fill; intro X
  refine wpAny_call (enterH (K := Mine.K w.params) (binds := [("datum", .bool true)]) B F X N T rfl rfl hk (by k_is) (by k_is) (by ktr_room) (BindsTo.of_eq rfl) (locs rfl) ?_ rfl rfl rfl (by decide))
  intro g L' h' hg1 hg2 F' N' B' X' T' l1
  clear F N B X T hg2
  try dsimp only
  try k_fold
  k_steps
  exact ret _ _ (hg1.done (by assumption))
theorem kind_num {w : World} {s : Shared} {Q : Value → Shared → Prop} (i : Int) (t : Tok) (ret : ∀ t h' tk', Stays [] s.heap h' → Q (.str "number" t) { s with heap := h', toks := tk' }) :
   CallOk 3 60 w 392 [.int i t] [] s Q := by
  intro p loose mean mg mb dp un gd cn cs a ccd cl outer A₀ base h₀ L m E B F X N T hk hdp hun
  revert X; k_fill; intro X
  refine wpAny_call (enterH (K := Mine.K w.params) (binds := [("datum", .int i t)]) B F X N T rfl rfl hk (by k_is) (by k_is) (by ktr_room) (BindsTo.of_eq rfl) (locs rfl) ?_ rfl rfl rfl (by decide))
  intro g L' h' hg1 hg2 F' N' B' X' T' l1
  clear F N B X T hg2
  try dsimp only
  try k_fold
  k_steps
  exact ret _ _ _ (hg1.done (by assumption))
theorem true_num {w : World} {s : Shared} {Q : Value → Shared → Prop} (i : Int) (t : Tok) (ret : ∀ h' tk', Stays [] s.heap h' → Q (.bool true) { s with heap := h', toks := tk' }) :
   CallOk 3 60 w 371 [.int i t] [] s Q := by
  intro p loose mean mg mb dp un gd cn cs a ccd cl outer A₀ base h₀ L m E B F X N T hk hdp hun
  revert X; k_fill; intro X
  refine wpAny_call (enterH (K := Mine.K w.params) (binds := [("datum", .int i t)]) B F X N T rfl rfl hk (by k_is) (by k_is) (by ktr_room) (BindsTo.of_eq rfl) (locs rfl) ?_ rfl rfl rfl (by decide))
  intro g L' h' hg1 hg2 F' N' B' X' T' l1
  clear F N B X T hg2
  try dsimp only
  try k_fold
  k_steps
  exact ret _ _ (hg1.done (by assumption))
theorem boolean_num {w : World} {s : Shared} {Q : Value → Shared → Prop} (i : Int) (t : Tok) (ret : ∀ h' tk', Stays [] s.heap h' → Q (.bool false) { s with heap := h', toks := tk' }) :
   CallOk 3 60 w 364 [.int i t] [] s Q := by
  intro p loose mean mg mb dp un gd cn cs a ccd cl outer A₀ base h₀ L m E B F X N T hk hdp hun
  revert X; k_fill; intro X
  refine wpAny_call (enterH (K := Mine.K w.params) (binds := [("datum", .int i t)]) B F X N T rfl rfl hk (by k_is) (by k_is) (by ktr_room) (BindsTo.of_eq rfl) (locs rfl) ?_ rfl rfl rfl (by decide))
  intro g L' h' hg1 hg2 F' N' B' X' T' l1
  clear F N B X T hg2
  try dsimp only
  try k_fold
  k_steps
  exact ret _ _ (hg1.done (by assumption))
theorem whole_num {w : World} {s : Shared} {Q : Value → Shared → Prop} (i : Int) (t : Tok) (ret : ∀ h' tk', Stays [] s.heap h' → Q (.bool true) { s with heap := h', toks := tk' }) :
   CallOk 3 60 w 378 [.int i t] [] s Q := by
  intro p loose mean mg mb dp un gd cn cs a ccd cl outer A₀ base h₀ L m E B F X N T hk hdp hun
  revert X; k_fill; intro X
  refine wpAny_call (enterH (K := Mine.K w.params) (binds := [("datum", .int i t)]) B F X N T rfl rfl hk (by k_is) (by k_is) (by ktr_room) (BindsTo.of_eq rfl) (locs rfl) ?_ rfl rfl rfl (by decide))
  intro g L' h' hg1 hg2 F' N' B' X' T' l1
  clear F N B X T hg2
  try dsimp only
  try k_fold
  k_steps
  exact ret _ _ (hg1.done (by assumption))
theorem symbol_num {w : World} {s : Shared} {Q : Value → Shared → Prop} (i : Int) (t : Tok) (ret : ∀ h' tk', Stays [] s.heap h' → Q (.bool false) { s with heap := h', toks := tk' }) :
   CallOk 3 60 w 385 [.int i t] [] s Q := by
  intro p loose mean mg mb dp un gd cn cs a ccd cl outer A₀ base h₀ L m E B F X N T hk hdp hun
  revert X; k_fill; intro X
  refine wpAny_call (enterH (K := Mine.K w.params) (binds := [("datum", .int i t)]) B F X N T rfl rfl hk (by k_is) (by k_is) (by ktr_room) (BindsTo.of_eq rfl) (locs rfl) ?_ rfl rfl rfl (by decide))
  intro g L' h' hg1 hg2 F' N' B' X' T' l1
  clear F N B X T hg2
  try dsimp only
  try k_fold
  k_steps
  exact ret _ _ (hg1.done (by assumption))
theorem kind_char {w : World} {s : Shared} {Q : Value → Shared → Prop} (x d : Addr) (o : Obj) (ret : ∀ t h' tk', Stays [] s.heap h' → Q (.str "char" t) { s with heap := h', toks := tk' }) :
   CallOk 3 60 w 392 [.ref x] [(x, instObj 169 d), (d, o)] s Q := by
  intro p loose mean mg mb dp un gd cn cs a ccd cl outer A₀ base h₀ L m E B F X N T hk hdp hun
  revert X; k_fill; intro X
  refine wpAny_call (enterH (K := Mine.K w.params) (binds := [("datum", .ref x)]) B F X N T rfl rfl hk (by k_is) (by k_is) (by ktr_room) (BindsTo.of_eq rfl) (locs rfl) ?_ rfl rfl rfl (by decide))
  intro g L' h' hg1 hg2 F' N' B' X' T' l1
  have bk : ∀ p ∈ [(x, instObj 169 d), (d, o)], s.heap.get? p.1 = some p.2 := fun p hp => (N p hp).1
  clear F N B X T hg2
  try dsimp only
  try k_fold
  k_steps
  exact ret _ _ _ (Stays.back (hg1.done (by assumption)) bk (fun p hp => News.at (by assumption) hp))
theorem true_char {w : World} {s : Shared} {Q : Value → Shared → Prop} (x d : Addr) (o : Obj) (ret : ∀ h' tk', Stays [] s.heap h' → Q (.bool true) { s with heap := h', toks := tk' }) :
   CallOk 3 60 w 371 [.ref x] [(x, instObj 169 d), (d, o)] s Q := by
  intro p loose mean mg mb dp un gd cn cs a ccd cl outer A₀ base h₀ L m E B F X N T hk hdp hun
  revert X; k_fill; intro X
  refine wpAny_call (enterH (K := Mine.K w.params) (binds := [("datum", .ref x)]) B F X N T rfl rfl hk (by k_is) (by k_is) (by ktr_room) (BindsTo.of_eq rfl) (locs rfl) ?_ rfl rfl rfl (by decide))
  intro g L' h' hg1 hg2 F' N' B' X' T' l1
  have bk : ∀ p ∈ [(x, instObj 169 d), (d, o)], s.heap.get? p.1 = some p.2 := fun p hp => (N p hp).1
  clear F N B X T hg2
  try dsimp only
  try k_fold
  k_steps
  exact ret _ _ (Stays.back (hg1.done (by assumption)) bk (fun p hp => News.at (by assumption) hp))
theorem boolean_char {w : World} {s : Shared} {Q : Value → Shared → Prop} (x d : Addr) (o : Obj) (ret : ∀ h' tk', Stays [] s.heap h' → Q (.bool false) { s with heap := h', toks := tk' }) :
   CallOk 3 60 w 364 [.ref x] [(x, instObj 169 d), (d, o)] s Q := by
  intro p loose mean mg mb dp un gd cn cs a ccd cl outer A₀ base h₀ L m E B F X N T hk hdp hun
  revert X; k_fill; intro X
  refine wpAny_call (enterH (K := Mine.K w.params) (binds := [("datum", .ref x)]) B F X N T rfl rfl hk (by k_is) (by k_is) (by ktr_room) (BindsTo.of_eq rfl) (locs rfl) ?_ rfl rfl rfl (by decide))
  intro g L' h' hg1 hg2 F' N' B' X' T' l1
  have bk : ∀ p ∈ [(x, instObj 169 d), (d, o)], s.heap.get? p.1 = some p.2 := fun p hp => (N p hp).1
  clear F N B X T hg2
  try dsimp only
  try k_fold
  k_steps
  exact ret _ _ (Stays.back (hg1.done (by assumption)) bk (fun p hp => News.at (by assumption) hp))
theorem whole_char {w : World} {s : Shared} {Q : Value → Shared → Prop} (x d : Addr) (o : Obj) (ret : ∀ h' tk', Stays [] s.heap h' → Q (.bool false) { s with heap := h', toks := tk' }) :
   CallOk 3 60 w 378 [.ref x] [(x, instObj 169 d), (d, o)] s Q := by
  intro p loose mean mg mb dp un gd cn cs a ccd cl outer A₀ base h₀ L m E B F X N T hk hdp hun
  revert X; k_fill; intro X
  refine wpAny_call (enterH (K := Mine.K w.params) (binds := [("datum", .ref x)]) B F X N T rfl rfl hk (by k_is) (by k_is) (by ktr_room) (BindsTo.of_eq rfl) (locs rfl) ?_ rfl rfl rfl (by decide))
  intro g L' h' hg1 hg2 F' N' B' X' T' l1
  have bk : ∀ p ∈ [(x, instObj 169 d), (d, o)], s.heap.get? p.1 = some p.2 := fun p hp => (N p hp).1
  clear F N B X T hg2
  try dsimp only
  try k_fold
  k_steps
  exact ret _ _ (Stays.back (hg1.done (by assumption)) bk (fun p hp => News.at (by assumption) hp))
theorem symbol_char {w : World} {s : Shared} {Q : Value → Shared → Prop} (x d : Addr) (o : Obj) (ret : ∀ h' tk', Stays [] s.heap h' → Q (.bool false) { s with heap := h', toks := tk' }) :
   CallOk 3 60 w 385 [.ref x] [(x, instObj 169 d), (d, o)] s Q := by
  intro p loose mean mg mb dp un gd cn cs a ccd cl outer A₀ base h₀ L m E B F X N T hk hdp hun
  revert X; k_fill; intro X
  refine wpAny_call (enterH (K := Mine.K w.params) (binds := [("datum", .ref x)]) B F X N T rfl rfl hk (by k_is) (by k_is) (by ktr_room) (BindsTo.of_eq rfl) (locs rfl) ?_ rfl rfl rfl (by decide))
  intro g L' h' hg1 hg2 F' N' B' X' T' l1
  have bk : ∀ p ∈ [(x, instObj 169 d), (d, o)], s.heap.get? p.1 = some p.2 := fun p hp => (N p hp).1
  clear F N B X T hg2
  try dsimp only
  try k_fold
  k_steps
  exact ret _ _ (Stays.back (hg1.done (by assumption)) bk (fun p hp => News.at (by assumption) hp))
theorem kind_symbol {w : World} {s : Shared} {Q : Value → Shared → Prop} (x d : Addr) (o : Obj) (ret : ∀ t h' tk', Stays [] s.heap h' → Q (.str "symbol" t) { s with heap := h', toks := tk' }) :
   CallOk 3 60 w 392 [.ref x] [(x, instObj 64 d), (d, o)] s Q := by
  intro p loose mean mg mb dp un gd cn cs a ccd cl outer A₀ base h₀ L m E B F X N T hk hdp hun
  revert X; k_fill; intro X
  refine wpAny_call (enterH (K := Mine.K w.params) (binds := [("datum", .ref x)]) B F X N T rfl rfl hk (by k_is) (by k_is) (by ktr_room) (BindsTo.of_eq rfl) (locs rfl) ?_ rfl rfl rfl (by decide))
  intro g L' h' hg1 hg2 F' N' B' X' T' l1
  have bk : ∀ p ∈ [(x, instObj 64 d), (d, o)], s.heap.get? p.1 = some p.2 := fun p hp => (N p hp).1
  clear F N B X T hg2
  try dsimp only
  try k_fold
  k_steps
  exact ret _ _ _ (Stays.back (hg1.done (by assumption)) bk (fun p hp => News.at (by assumption) hp))
theorem true_symbol {w : World} {s : Shared} {Q : Value → Shared → Prop} (x d : Addr) (o : Obj) (ret : ∀ h' tk', Stays [] s.heap h' → Q (.bool true) { s with heap := h', toks := tk' }) :
   CallOk 3 60 w 371 [.ref x] [(x, instObj 64 d), (d, o)] s Q := by
  intro p loose mean mg mb dp un gd cn cs a ccd cl outer A₀ base h₀ L m E B F X N T hk hdp hun
  revert X; k_fill; intro X
  refine wpAny_call (enterH (K := Mine.K w.params) (binds := [("datum", .ref x)]) B F X N T rfl rfl hk (by k_is) (by k_is) (by ktr_room) (BindsTo.of_eq rfl) (locs rfl) ?_ rfl rfl rfl (by decide))
  intro g L' h' hg1 hg2 F' N' B' X' T' l1
  have bk : ∀ p ∈ [(x, instObj 64 d), (d, o)], s.heap.get? p.1 = some p.2 := fun p hp => (N p hp).1
  clear F N B X T hg2
  try dsimp only
  try k_fold
  k_steps
  exact ret _ _ (Stays.back (hg1.done (by assumption)) bk (fun p hp => News.at (by assumption) hp))
theorem boolean_symbol {w : World} {s : Shared} {Q : Value → Shared → Prop} (x d : Addr) (o : Obj) (ret : ∀ h' tk', Stays [] s.heap h' → Q (.bool false) { s with heap := h', toks := tk' }) :
   CallOk 3 60 w 364 [.ref x] [(x, instObj 64 d), (d, o)] s Q := by
  intro p loose mean mg mb dp un gd cn cs a ccd cl outer A₀ base h₀ L m E B F X N T hk hdp hun
  revert X; k_fill; intro X
  refine wpAny_call (enterH (K := Mine.K w.params) (binds := [("datum", .ref x)]) B F X N T rfl rfl hk (by k_is) (by k_is) (by ktr_room) (BindsTo.of_eq rfl) (locs rfl) ?_ rfl rfl rfl (by decide))
  intro g L' h' hg1 hg2 F' N' B' X' T' l1
  have bk : ∀ p ∈ [(x, instObj 64 d), (d, o)], s.heap.get? p.1 = some p.2 := fun p hp => (N p hp).1
  clear F N B X T hg2
  try dsimp only
  try k_fold
  k_steps
  exact ret _ _ (Stays.back (hg1.done (by assumption)) bk (fun p hp => News.at (by assumption) hp))
theorem whole_symbol {w : World} {s : Shared} {Q : Value → Shared → Prop} (x d : Addr) (o : Obj) (ret : ∀ h' tk', Stays [] s.heap h' → Q (.bool false) { s with heap := h', toks := tk' }) :
   CallOk 3 60 w 378 [.ref x] [(x, instObj 64 d), (d, o)] s Q := by
  intro p loose mean mg mb dp un gd cn cs a ccd cl outer A₀ base h₀ L m E B F X N T hk hdp hun
  revert X; k_fill; intro X
  refine wpAny_call (enterH (K := Mine.K w.params) (binds := [("datum", .ref x)]) B F X N T rfl rfl hk (by k_is) (by k_is) (by ktr_room) (BindsTo.of_eq rfl) (locs rfl) ?_ rfl rfl rfl (by decide))
  intro g L' h' hg1 hg2 F' N' B' X' T' l1
  have bk : ∀ p ∈ [(x, instObj 64 d), (d, o)], s.heap.get? p.1 = some p.2 := fun p hp => (N p hp).1
  clear F N B X T hg2
  try dsimp only
  try k_fold
  k_steps
  exact ret _ _ (Stays.back (hg1.done (by assumption)) bk (fun p hp => News.at (by assumption) hp))
theorem symbol_symbol {w : World} {s : Shared} {Q : Value → Shared → Prop} (x d : Addr) (o : Obj) (ret : ∀ h' tk', Stays [] s.heap h' → Q (.bool true) { s with heap := h', toks := tk' }) :
   CallOk 3 60 w 385 [.ref x] [(x, instObj 64 d), (d, o)] s Q := by
  intro p loose mean mg mb dp un gd cn cs a ccd cl outer A₀ base h₀ L m E B F X N T hk hdp hun
  revert X; k_fill; intro X
  refine wpAny_call (enterH (K := Mine.K w.params) (binds := [("datum", .ref x)]) B F X N T rfl rfl hk (by k_is) (by k_is) (by ktr_room) (BindsTo.of_eq rfl) (locs rfl) ?_ rfl rfl rfl (by decide))
  intro g L' h' hg1 hg2 F' N' B' X' T' l1
  have bk : ∀ p ∈ [(x, instObj 64 d), (d, o)], s.heap.get? p.1 = some p.2 := fun p hp => (N p hp).1
  clear F N B X T hg2
  try dsimp only
  try k_fold
  k_steps
  exact ret _ _ (Stays.back (hg1.done (by assumption)) bk (fun p hp => News.at (by assumption) hp))
theorem kind_pair {w : World} {s : Shared} {Q : Value → Shared → Prop} (x d : Addr) (o : Obj) (ret : ∀ t h' tk', Stays [] s.heap h' → Q (.str "pair" t) { s with heap := h', toks := tk' }) :
   CallOk 3 60 w 392 [.ref x] [(x, instObj 148 d), (d, o)] s Q := by
  intro p loose mean mg mb dp un gd cn cs a ccd cl outer A₀ base h₀ L m E B F X N T hk hdp hun
  revert X; k_fill; intro X
  refine wpAny_call (enterH (K := Mine.K w.params) (binds := [("datum", .ref x)]) B F X N T rfl rfl hk (by k_is) (by k_is) (by ktr_room) (BindsTo.of_eq rfl) (locs rfl) ?_ rfl rfl rfl (by decide))
  intro g L' h' hg1 hg2 F' N' B' X' T' l1
  have bk : ∀ p ∈ [(x, instObj 148 d), (d, o)], s.heap.get? p.1 = some p.2 := fun p hp => (N p hp).1
  clear F N B X T hg2
  try dsimp only
  try k_fold
  k_steps
  exact ret _ _ _ (Stays.back (hg1.done (by assumption)) bk (fun p hp => News.at (by assumption) hp))
theorem true_pair {w : World} {s : Shared} {Q : Value → Shared → Prop} (x d : Addr) (o : Obj) (ret : ∀ h' tk', Stays [] s.heap h' → Q (.bool true) { s with heap := h', toks := tk' }) :
   CallOk 3 60 w 371 [.ref x] [(x, instObj 148 d), (d, o)] s Q := by
  intro p loose mean mg mb dp un gd cn cs a ccd cl outer A₀ base h₀ L m E B F X N T hk hdp hun
  revert X; k_fill; intro X
  refine wpAny_call (enterH (K := Mine.K w.params) (binds := [("datum", .ref x)]) B F X N T rfl rfl hk (by k_is) (by k_is) (by ktr_room) (BindsTo.of_eq rfl) (locs rfl) ?_ rfl rfl rfl (by decide))
  intro g L' h' hg1 hg2 F' N' B' X' T' l1
  have bk : ∀ p ∈ [(x, instObj 148 d), (d, o)], s.heap.get? p.1 = some p.2 := fun p hp => (N p hp).1
  clear F N B X T hg2
  try dsimp only
  try k_fold
  k_steps
  exact ret _ _ (Stays.back (hg1.done (by assumption)) bk (fun p hp => News.at (by assumption) hp))
theorem boolean_pair {w : World} {s : Shared} {Q : Value → Shared → Prop} (x d : Addr) (o : Obj) (ret : ∀ h' tk', Stays [] s.heap h' → Q (.bool false) { s with heap := h', toks := tk' }) :
   CallOk 3 60 w 364 [.ref x] [(x, instObj 148 d), (d, o)] s Q := by
  intro p loose mean mg mb dp un gd cn cs a ccd cl outer A₀ base h₀ L m E B F X N T hk hdp hun
  revert X; k_fill; intro X
  refine wpAny_call (enterH (K := Mine.K w.params) (binds := [("datum", .ref x)]) B F X N T rfl rfl hk (by k_is) (by k_is) (by ktr_room) (BindsTo.of_eq rfl) (locs rfl) ?_ rfl rfl rfl (by decide))
  intro g L' h' hg1 hg2 F' N' B' X' T' l1
  have bk : ∀ p ∈ [(x, instObj 148 d), (d, o)], s.heap.get? p.1 = some p.2 := fun p hp => (N p hp).1
  clear F N B X T hg2
  try dsimp only
  try k_fold
  k_steps
  exact ret _ _ (Stays.back (hg1.done (by assumption)) bk (fun p hp => News.at (by assumption) hp))
theorem whole_pair {w : World} {s : Shared} {Q : Value → Shared → Prop} (x d : Addr) (o : Obj) (ret : ∀ h' tk', Stays [] s.heap h' → Q (.bool false) { s with heap := h', toks := tk' }) :
   CallOk 3 60 w 378 [.ref x] [(x, instObj 148 d), (d, o)] s Q := by
  intro p loose mean mg mb dp un gd cn cs a ccd cl outer A₀ base h₀ L m E B F X N T hk hdp hun
  revert X; k_fill; intro X
  refine wpAny_call (enterH (K := Mine.K w.params) (binds := [("datum", .ref x)]) B F X N T rfl rfl hk (by k_is) (by k_is) (by ktr_room) (BindsTo.of_eq rfl) (locs rfl) ?_ rfl rfl rfl (by decide))
  intro g L' h' hg1 hg2 F' N' B' X' T' l1
  have bk : ∀ p ∈ [(x, instObj 148 d), (d, o)], s.heap.get? p.1 = some p.2 := fun p hp => (N p hp).1
  clear F N B X T hg2
  try dsimp only
  try k_fold
  k_steps
  exact ret _ _ (Stays.back (hg1.done (by assumption)) bk (fun p hp => News.at (by assumption) hp))
theorem symbol_pair {w : World} {s : Shared} {Q : Value → Shared → Prop} (x d : Addr) (o : Obj) (ret : ∀ h' tk', Stays [] s.heap h' → Q (.bool false) { s with heap := h', toks := tk' }) :
   CallOk 3 60 w 385 [.ref x] [(x, instObj 148 d), (d, o)] s Q := by
  intro p loose mean mg mb dp un gd cn cs a ccd cl outer A₀ base h₀ L m E B F X N T hk hdp hun
  revert X; k_fill; intro X
  refine wpAny_call (enterH (K := Mine.K w.params) (binds := [("datum", .ref x)]) B F X N T rfl rfl hk (by k_is) (by k_is) (by ktr_room) (BindsTo.of_eq rfl) (locs rfl) ?_ rfl rfl rfl (by decide))
  intro g L' h' hg1 hg2 F' N' B' X' T' l1
  have bk : ∀ p ∈ [(x, instObj 148 d), (d, o)], s.heap.get? p.1 = some p.2 := fun p hp => (N p hp).1
  clear F N B X T hg2
  try dsimp only
  try k_fold
  k_steps
  exact ret _ _ (Stays.back (hg1.done (by assumption)) bk (fun p hp => News.at (by assumption) hp))
theorem kind_vector {w : World} {s : Shared} {Q : Value → Shared → Prop} (x d : Addr) (o : Obj) (ret : ∀ t h' tk', Stays [] s.heap h' → Q (.str "vector" t) { s with heap := h', toks := tk' }) :
   CallOk 3 60 w 392 [.ref x] [(x, instObj 211 d), (d, o)] s Q := by
  intro p loose mean mg mb dp un gd cn cs a ccd cl outer A₀ base h₀ L m E B F X N T hk hdp hun
  revert X; k_fill; intro X
  refine wpAny_call (enterH (K := Mine.K w.params) (binds := [("datum", .ref x)]) B F X N T rfl rfl hk (by k_is) (by k_is) (by ktr_room) (BindsTo.of_eq rfl) (locs rfl) ?_ rfl rfl rfl (by decide))
  intro g L' h' hg1 hg2 F' N' B' X' T' l1
  have bk : ∀ p ∈ [(x, instObj 211 d), (d, o)], s.heap.get? p.1 = some p.2 := fun p hp => (N p hp).1
  clear F N B X T hg2
  try dsimp only
  try k_fold
  k_steps
  exact ret _ _ _ (Stays.back (hg1.done (by assumption)) bk (fun p hp => News.at (by assumption) hp))
theorem true_vector {w : World} {s : Shared} {Q : Value → Shared → Prop} (x d : Addr) (o : Obj) (ret : ∀ h' tk', Stays [] s.heap h' → Q (.bool true) { s with heap := h', toks := tk' }) :
   CallOk 3 60 w 371 [.ref x] [(x, instObj 211 d), (d, o)] s Q := by
  intro p loose mean mg mb dp un gd cn cs a ccd cl outer A₀ base h₀ L m E B F X N T hk hdp hun
  revert X; k_fill; intro X
  refine wpAny_call (enterH (K := Mine.K w.params) (binds := [("datum", .ref x)]) B F X N T rfl rfl hk (by k_is) (by k_is) (by ktr_room) (BindsTo.of_eq rfl) (locs rfl) ?_ rfl rfl rfl (by decide))
  intro g L' h' hg1 hg2 F' N' B' X' T' l1
  have bk : ∀ p ∈ [(x, instObj 211 d), (d, o)], s.heap.get? p.1 = some p.2 := fun p hp => (N p hp).1
  clear F N B X T hg2
  try dsimp only
  try k_fold
  k_steps
  exact ret _ _ (Stays.back (hg1.done (by assumption)) bk (fun p hp => News.at (by assumption) hp))
theorem boolean_vector {w : World} {s : Shared} {Q : Value → Shared → Prop} (x d : Addr) (o : Obj) (ret : ∀ h' tk', Stays [] s.heap h' → Q (.bool false) { s with heap := h', toks := tk' }) :
   CallOk 3 60 w 364 [.ref x] [(x, instObj 211 d), (d, o)] s Q := by
  intro p loose mean mg mb dp un gd cn cs a ccd cl outer A₀ base h₀ L m E B F X N T hk hdp hun
  revert X; k_fill; intro X
  refine wpAny_call (enterH (K := Mine.K w.params) (binds := [("datum", .ref x)]) B F X N T rfl rfl hk (by k_is) (by k_is) (by ktr_room) (BindsTo.of_eq rfl) (locs rfl) ?_ rfl rfl rfl (by decide))
  intro g L' h' hg1 hg2 F' N' B' X' T' l1
  have bk : ∀ p ∈ [(x, instObj 211 d), (d, o)], s.heap.get? p.1 = some p.2 := fun p hp => (N p hp).1
  clear F N B X T hg2
  try dsimp only
  try k_fold
  k_steps
  exact ret _ _ (Stays.back (hg1.done (by assumption)) bk (fun p hp => News.at (by assumption) hp))
theorem whole_vector {w : World} {s : Shared} {Q : Value → Shared → Prop} (x d : Addr) (o : Obj) (ret : ∀ h' tk', Stays [] s.heap h' → Q (.bool false) { s with heap := h', toks := tk' }) :
   CallOk 3 60 w 378 [.ref x] [(x, instObj 211 d), (d, o)] s Q := by
  intro p loose mean mg mb dp un gd cn cs a ccd cl outer A₀ base h₀ L m E B F X N T hk hdp hun
  revert X; k_fill; intro X
  refine wpAny_call (enterH (K := Mine.K w.params) (binds := [("datum", .ref x)]) B F X N T rfl rfl hk (by k_is) (by k_is) (by ktr_room) (BindsTo.of_eq rfl) (locs rfl) ?_ rfl rfl rfl (by decide))
  intro g L' h' hg1 hg2 F' N' B' X' T' l1
  have bk : ∀ p ∈ [(x, instObj 211 d), (d, o)], s.heap.get? p.1 = some p.2 := fun p hp => (N p hp).1
  clear F N B X T hg2
  try dsimp only
  try k_fold
  k_steps
  exact ret _ _ (Stays.back (hg1.done (by assumption)) bk (fun p hp => News.at (by assumption) hp))
theorem symbol_vector {w : World} {s : Shared} {Q : Value → Shared → Prop} (x d : Addr) (o : Obj) (ret : ∀ h' tk', Stays [] s.heap h' → Q (.bool false) { s with heap := h', toks := tk' }) :
   CallOk 3 60 w 385 [.ref x] [(x, instObj 211 d), (d, o)] s Q := by
  intro p loose mean mg mb dp un gd cn cs a ccd cl outer A₀ base h₀ L m E B F X N T hk hdp hun
  revert X; k_fill; intro X
  refine wpAny_call (enterH (K := Mine.K w.params) (binds := [("datum", .ref x)]) B F X N T rfl rfl hk (by k_is) (by k_is) (by ktr_room) (BindsTo.of_eq rfl) (locs rfl) ?_ rfl rfl rfl (by decide))
  intro g L' h' hg1 hg2 F' N' B' X' T' l1
  have bk : ∀ p ∈ [(x, instObj 211 d), (d, o)], s.heap.get? p.1 = some p.2 := fun p hp => (N p hp).1
  clear F N B X T hg2
  try dsimp only
  try k_fold
  k_steps
  exact ret _ _ (Stays.back (hg1.done (by assumption)) bk (fun p hp => News.at (by assumption) hp))
theorem kind_string {w : World} {s : Shared} {Q : Value → Shared → Prop} (x d : Addr) (o : Obj) (ret : ∀ t h' tk', Stays [] s.heap h' → Q (.str "string" t) { s with heap := h', toks := tk' }) :
   CallOk 3 60 w 392 [.ref x] [(x, instObj 190 d), (d, o)] s Q := by
  intro p loose mean mg mb dp un gd cn cs a ccd cl outer A₀ base h₀ L m E B F X N T hk hdp hun
  revert X; k_fill; intro X
  refine wpAny_call (enterH (K := Mine.K w.params) (binds := [("datum", .ref x)]) B F X N T rfl rfl hk (by k_is) (by k_is) (by ktr_room) (BindsTo.of_eq rfl) (locs rfl) ?_ rfl rfl rfl (by decide))
  intro g L' h' hg1 hg2 F' N' B' X' T' l1
  have bk : ∀ p ∈ [(x, instObj 190 d), (d, o)], s.heap.get? p.1 = some p.2 := fun p hp => (N p hp).1
  clear F N B X T hg2
  try dsimp only
  try k_fold
  k_steps
  exact ret _ _ _ (Stays.back (hg1.done (by assumption)) bk (fun p hp => News.at (by assumption) hp))
theorem true_string {w : World} {s : Shared} {Q : Value → Shared → Prop} (x d : Addr) (o : Obj) (ret : ∀ h' tk', Stays [] s.heap h' → Q (.bool true) { s with heap := h', toks := tk' }) :
   CallOk 3 60 w 371 [.ref x] [(x, instObj 190 d), (d, o)] s Q := by
  intro p loose mean mg mb dp un gd cn cs a ccd cl outer A₀ base h₀ L m E B F X N T hk hdp hun
  revert X; k_fill; intro X
  refine wpAny_call (enterH (K := Mine.K w.params) (binds := [("datum", .ref x)]) B F X N T rfl rfl hk (by k_is) (by k_is) (by ktr_room) (BindsTo.of_eq rfl) (locs rfl) ?_ rfl rfl rfl (by decide))
  intro g L' h' hg1 hg2 F' N' B' X' T' l1
  have bk : ∀ p ∈ [(x, instObj 190 d), (d, o)], s.heap.get? p.1 = some p.2 := fun p hp => (N p hp).1
  clear F N B X T hg2
  try dsimp only
  try k_fold
  k_steps
  exact ret _ _ (Stays.back (hg1.done (by assumption)) bk (fun p hp => News.at (by assumption) hp))
theorem boolean_string {w : World} {s : Shared} {Q : Value → Shared → Prop} (x d : Addr) (o : Obj) (ret : ∀ h' tk', Stays [] s.heap h' → Q (.bool false) { s with heap := h', toks := tk' }) :
   CallOk 3 60 w 364 [.ref x] [(x, instObj 190 d), (d, o)] s Q := by
  intro p loose mean mg mb dp un gd cn cs a ccd cl outer A₀ base h₀ L m E B F X N T hk hdp hun
  revert X; k_fill; intro X
  refine wpAny_call (enterH (K := Mine.K w.params) (binds := [("datum", .ref x)]) B F X N T rfl rfl hk (by k_is) (by k_is) (by ktr_room) (BindsTo.of_eq rfl) (locs rfl) ?_ rfl rfl rfl (by decide))
  intro g L' h' hg1 hg2 F' N' B' X' T' l1
  have bk : ∀ p ∈ [(x, instObj 190 d), (d, o)], s.heap.get? p.1 = some p.2 := fun p hp => (N p hp).1
  clear F N B X T hg2
  try dsimp only
  try k_fold
  k_steps
  exact ret _ _ (Stays.back (hg1.done (by assumption)) bk (fun p hp => News.at (by assumption) hp))
theorem whole_string {w : World} {s : Shared} {Q : Value → Shared → Prop} (x d : Addr) (o : Obj) (ret : ∀ h' tk', Stays [] s.heap h' → Q (.bool false) { s with heap := h', toks := tk' }) :
   CallOk 3 60 w 378 [.ref x] [(x, instObj 190 d), (d, o)] s Q := by
  intro p loose mean mg mb dp un gd cn cs a ccd cl outer A₀ base h₀ L m E B F X N T hk hdp hun
  revert X; k_fill; intro X
  refine wpAny_call (enterH (K := Mine.K w.params) (binds := [("datum", .ref x)]) B F X N T rfl rfl hk (by k_is) (by k_is) (by ktr_room) (BindsTo.of_eq rfl) (locs rfl) ?_ rfl rfl rfl (by decide))
  intro g L' h' hg1 hg2 F' N' B' X' T' l1
  have bk : ∀ p ∈ [(x, instObj 190 d), (d, o)], s.heap.get? p.1 = some p.2 := fun p hp => (N p hp).1
  clear F N B X T hg2
  try dsimp only
  try k_fold
  k_steps
  exact ret _ _ (Stays.back (hg1.done (by assumption)) bk (fun p hp => News.at (by assumption) hp))
theorem symbol_string {w : World} {s : Shared} {Q : Value → Shared → Prop} (x d : Addr) (o : Obj) (ret : ∀ h' tk', Stays [] s.heap h' → Q (.bool false) { s with heap := h', toks := tk' }) :
   CallOk 3 60 w 385 [.ref x] [(x, instObj 190 d), (d, o)] s Q := by
  intro p loose mean mg mb dp un gd cn cs a ccd cl outer A₀ base h₀ L m E B F X N T hk hdp hun
  revert X; k_fill; intro X
  refine wpAny_call (enterH (K := Mine.K w.params) (binds := [("datum", .ref x)]) B F X N T rfl rfl hk (by k_is) (by k_is) (by ktr_room) (BindsTo.of_eq rfl) (locs rfl) ?_ rfl rfl rfl (by decide))
  intro g L' h' hg1 hg2 F' N' B' X' T' l1
  have bk : ∀ p ∈ [(x, instObj 190 d), (d, o)], s.heap.get? p.1 = some p.2 := fun p hp => (N p hp).1
  clear F N B X T hg2
  try dsimp only
  try k_fold
  k_steps
  exact ret _ _ (Stays.back (hg1.done (by assumption)) bk (fun p hp => News.at (by assumption) hp))
theorem kind_box {w : World} {s : Shared} {Q : Value → Shared → Prop} (x d : Addr) (o : Obj) (ret : ∀ t h' tk', Stays [] s.heap h' → Q (.str "box" t) { s with heap := h', toks := tk' }) :
   CallOk 3 60 w 392 [.ref x] [(x, instObj 232 d), (d, o)] s Q := by
  intro p loose mean mg mb dp un gd cn cs a ccd cl outer A₀ base h₀ L m E B F X N T hk hdp hun
  revert X; k_fill; intro X
  refine wpAny_call (enterH (K := Mine.K w.params) (binds := [("datum", .ref x)]) B F X N T rfl rfl hk (by k_is) (by k_is) (by ktr_room) (BindsTo.of_eq rfl) (locs rfl) ?_ rfl rfl rfl (by decide))
  intro g L' h' hg1 hg2 F' N' B' X' T' l1
  have bk : ∀ p ∈ [(x, instObj 232 d), (d, o)], s.heap.get? p.1 = some p.2 := fun p hp => (N p hp).1
  clear F N B X T hg2
  try dsimp only
  try k_fold
  k_steps
  exact ret _ _ _ (Stays.back (hg1.done (by assumption)) bk (fun p hp => News.at (by assumption) hp))
theorem true_box {w : World} {s : Shared} {Q : Value → Shared → Prop} (x d : Addr) (o : Obj) (ret : ∀ h' tk', Stays [] s.heap h' → Q (.bool true) { s with heap := h', toks := tk' }) :
   CallOk 3 60 w 371 [.ref x] [(x, instObj 232 d), (d, o)] s Q := by
  intro p loose mean mg mb dp un gd cn cs a ccd cl outer A₀ base h₀ L m E B F X N T hk hdp hun
  revert X; k_fill; intro X
  refine wpAny_call (enterH (K := Mine.K w.params) (binds := [("datum", .ref x)]) B F X N T rfl rfl hk (by k_is) (by k_is) (by ktr_room) (BindsTo.of_eq rfl) (locs rfl) ?_ rfl rfl rfl (by decide))
  intro g L' h' hg1 hg2 F' N' B' X' T' l1
  have bk : ∀ p ∈ [(x, instObj 232 d), (d, o)], s.heap.get? p.1 = some p.2 := fun p hp => (N p hp).1
  clear F N B X T hg2
  try dsimp only
  try k_fold
  k_steps
  exact ret _ _ (Stays.back (hg1.done (by assumption)) bk (fun p hp => News.at (by assumption) hp))
theorem boolean_box {w : World} {s : Shared} {Q : Value → Shared → Prop} (x d : Addr) (o : Obj) (ret : ∀ h' tk', Stays [] s.heap h' → Q (.bool false) { s with heap := h', toks := tk' }) :
   CallOk 3 60 w 364 [.ref x] [(x, instObj 232 d), (d, o)] s Q := by
  intro p loose mean mg mb dp un gd cn cs a ccd cl outer A₀ base h₀ L m E B F X N T hk hdp hun
  revert X; k_fill; intro X
  refine wpAny_call (enterH (K := Mine.K w.params) (binds := [("datum", .ref x)]) B F X N T rfl rfl hk (by k_is) (by k_is) (by ktr_room) (BindsTo.of_eq rfl) (locs rfl) ?_ rfl rfl rfl (by decide))
  intro g L' h' hg1 hg2 F' N' B' X' T' l1
  have bk : ∀ p ∈ [(x, instObj 232 d), (d, o)], s.heap.get? p.1 = some p.2 := fun p hp => (N p hp).1
  clear F N B X T hg2
  try dsimp only
  try k_fold
  k_steps
  exact ret _ _ (Stays.back (hg1.done (by assumption)) bk (fun p hp => News.at (by assumption) hp))
theorem whole_box {w : World} {s : Shared} {Q : Value → Shared → Prop} (x d : Addr) (o : Obj) (ret : ∀ h' tk', Stays [] s.heap h' → Q (.bool false) { s with heap := h', toks := tk' }) :
   CallOk 3 60 w 378 [.ref x] [(x, instObj 232 d), (d, o)] s Q := by
  intro p loose mean mg mb dp un gd cn cs a ccd cl outer A₀ base h₀ L m E B F X N T hk hdp hun
  revert X; k_fill; intro X
  refine wpAny_call (enterH (K := Mine.K w.params) (binds := [("datum", .ref x)]) B F X N T rfl rfl hk (by k_is) (by k_is) (by ktr_room) (BindsTo.of_eq rfl) (locs rfl) ?_ rfl rfl rfl (by decide))
  intro g L' h' hg1 hg2 F' N' B' X' T' l1
  have bk : ∀ p ∈ [(x, instObj 232 d), (d, o)], s.heap.get? p.1 = some p.2 := fun p hp => (N p hp).1
  clear F N B X T hg2
  try dsimp only
  try k_fold
  k_steps
  exact ret _ _ (Stays.back (hg1.done (by assumption)) bk (fun p hp => News.at (by assumption) hp))
theorem symbol_box {w : World} {s : Shared} {Q : Value → Shared → Prop} (x d : Addr) (o : Obj) (ret : ∀ h' tk', Stays [] s.heap h' → Q (.bool false) { s with heap := h', toks := tk' }) :
   CallOk 3 60 w 385 [.ref x] [(x, instObj 232 d), (d, o)] s Q := by
  intro p loose mean mg mb dp un gd cn cs a ccd cl outer A₀ base h₀ L m E B F X N T hk hdp hun
  revert X; k_fill; intro X
  refine wpAny_call (enterH (K := Mine.K w.params) (binds := [("datum", .ref x)]) B F X N T rfl rfl hk (by k_is) (by k_is) (by ktr_room) (BindsTo.of_eq rfl) (locs rfl) ?_ rfl rfl rfl (by decide))
  intro g L' h' hg1 hg2 F' N' B' X' T' l1
  have bk : ∀ p ∈ [(x, instObj 232 d), (d, o)], s.heap.get? p.1 = some p.2 := fun p hp => (N p hp).1
  clear F N B X T hg2
  try dsimp only
  try k_fold
  k_steps
  exact ret _ _ (Stays.back (hg1.done (by assumption)) bk (fun p hp => News.at (by assumption) hp))
theorem kind_promise {w : World} {s : Shared} {Q : Value → Shared → Prop} (x d : Addr) (o : Obj) (ret : ∀ t h' tk', Stays [] s.heap h' → Q (.str "promise" t) { s with heap := h', toks := tk' }) :
   CallOk 3 60 w 392 [.ref x] [(x, instObj 253 d), (d, o)] s Q := by
  intro p loose mean mg mb dp un gd cn cs a ccd cl outer A₀ base h₀ L m E B F X N T hk hdp hun
  revert X; k_fill; intro X
  refine wpAny_call (enterH (K := Mine.K w.params) (binds := [("datum", .ref x)]) B F X N T rfl rfl hk (by k_is) (by k_is) (by ktr_room) (BindsTo.of_eq rfl) (locs rfl) ?_ rfl rfl rfl (by decide))
  intro g L' h' hg1 hg2 F' N' B' X' T' l1
  have bk : ∀ p ∈ [(x, instObj 253 d), (d, o)], s.heap.get? p.1 = some p.2 := fun p hp => (N p hp).1
  clear F N B X T hg2
  try dsimp only
  try k_fold
  k_steps
  exact ret _ _ _ (Stays.back (hg1.done (by assumption)) bk (fun p hp => News.at (by assumption) hp))
theorem true_promise {w : World} {s : Shared} {Q : Value → Shared → Prop} (x d : Addr) (o : Obj) (ret : ∀ h' tk', Stays [] s.heap h' → Q (.bool true) { s with heap := h', toks := tk' }) :
   CallOk 3 60 w 371 [.ref x] [(x, instObj 253 d), (d, o)] s Q := by
  intro p loose mean mg mb dp un gd cn cs a ccd cl outer A₀ base h₀ L m E B F X N T hk hdp hun
  revert X; k_fill; intro X
  refine wpAny_call (enterH (K := Mine.K w.params) (binds := [("datum", .ref x)]) B F X N T rfl rfl hk (by k_is) (by k_is) (by ktr_room) (BindsTo.of_eq rfl) (locs rfl) ?_ rfl rfl rfl (by decide))
  intro g L' h' hg1 hg2 F' N' B' X' T' l1
  have bk : ∀ p ∈ [(x, instObj 253 d), (d, o)], s.heap.get? p.1 = some p.2 := fun p hp => (N p hp).1
  clear F N B X T hg2
  try dsimp only
  try k_fold
  k_steps
  exact ret _ _ (Stays.back (hg1.done (by assumption)) bk (fun p hp => News.at (by assumption) hp))
theorem boolean_promise {w : World} {s : Shared} {Q : Value → Shared → Prop} (x d : Addr) (o : Obj) (ret : ∀ h' tk', Stays [] s.heap h' → Q (.bool false) { s with heap := h', toks := tk' }) :
   CallOk 3 60 w 364 [.ref x] [(x, instObj 253 d), (d, o)] s Q := by
  intro p loose mean mg mb dp un gd cn cs a ccd cl outer A₀ base h₀ L m E B F X N T hk hdp hun
  revert X; k_fill; intro X
  refine wpAny_call (enterH (K := Mine.K w.params) (binds := [("datum", .ref x)]) B F X N T rfl rfl hk (by k_is) (by k_is) (by ktr_room) (BindsTo.of_eq rfl) (locs rfl) ?_ rfl rfl rfl (by decide))
  intro g L' h' hg1 hg2 F' N' B' X' T' l1
  have bk : ∀ p ∈ [(x, instObj 253 d), (d, o)], s.heap.get? p.1 = some p.2 := fun p hp => (N p hp).1
  clear F N B X T hg2
  try dsimp only
  try k_fold
  k_steps
  exact ret _ _ (Stays.back (hg1.done (by assumption)) bk (fun p hp => News.at (by assumption) hp))
theorem whole_promise {w : World} {s : Shared} {Q : Value → Shared → Prop} (x d : Addr) (o : Obj) (ret : ∀ h' tk', Stays [] s.heap h' → Q (.bool false) { s with heap := h', toks := tk' }) :
   CallOk 3 60 w 378 [.ref x] [(x, instObj 253 d), (d, o)] s Q := by
  intro p loose mean mg mb dp un gd cn cs a ccd cl outer A₀ base h₀ L m E B F X N T hk hdp hun
  revert X; k_fill; intro X
  refine wpAny_call (enterH (K := Mine.K w.params) (binds := [("datum", .ref x)]) B F X N T rfl rfl hk (by k_is) (by k_is) (by ktr_room) (BindsTo.of_eq rfl) (locs rfl) ?_ rfl rfl rfl (by decide))
  intro g L' h' hg1 hg2 F' N' B' X' T' l1
  have bk : ∀ p ∈ [(x, instObj 253 d), (d, o)], s.heap.get? p.1 = some p.2 := fun p hp => (N p hp).1
  clear F N B X T hg2
  try dsimp only
  try k_fold
  k_steps
  exact ret _ _ (Stays.back (hg1.done (by assumption)) bk (fun p hp => News.at (by assumption) hp))
theorem symbol_promise {w : World} {s : Shared} {Q : Value → Shared → Prop} (x d : Addr) (o : Obj) (ret : ∀ h' tk', Stays [] s.heap h' → Q (.bool false) { s with heap := h', toks := tk' }) :
   CallOk 3 60 w 385 [.ref x] [(x, instObj 253 d), (d, o)] s Q := by
  intro p loose mean mg mb dp un gd cn cs a ccd cl outer A₀ base h₀ L m E B F X N T hk hdp hun
  revert X; k_fill; intro X
  refine wpAny_call (enterH (K := Mine.K w.params) (binds := [("datum", .ref x)]) B F X N T rfl rfl hk (by k_is) (by k_is) (by ktr_room) (BindsTo.of_eq rfl) (locs rfl) ?_ rfl rfl rfl (by decide))
  intro g L' h' hg1 hg2 F' N' B' X' T' l1
  have bk : ∀ p ∈ [(x, instObj 253 d), (d, o)], s.heap.get? p.1 = some p.2 := fun p hp => (N p hp).1
  clear F N B X T hg2
  try dsimp only
  try k_fold
  k_steps
  exact ret _ _ (Stays.back (hg1.done (by assumption)) bk (fun p hp => News.at (by assumption) hp))
theorem kind_port {w : World} {s : Shared} {Q : Value → Shared → Prop} (x d : Addr) (o : Obj) (ret : ∀ t h' tk', Stays [] s.heap h' → Q (.str "port" t) { s with heap := h', toks := tk' }) :
   CallOk 3 60 w 392 [.ref x] [(x, instObj 274 d), (d, o)] s Q := by
  intro p loose mean mg mb dp un gd cn cs a ccd cl outer A₀ base h₀ L m E B F X N T hk hdp hun
  revert X; k_fill; intro X
  refine wpAny_call (enterH (K := Mine.K w.params) (binds := [("datum", .ref x)]) B F X N T rfl rfl hk (by k_is) (by k_is) (by ktr_room) (BindsTo.of_eq rfl) (locs rfl) ?_ rfl rfl rfl (by decide))
  intro g L' h' hg1 hg2 F' N' B' X' T' l1
  have bk : ∀ p ∈ [(x, instObj 274 d), (d, o)], s.heap.get? p.1 = some p.2 := fun p hp => (N p hp).1
  clear F N B X T hg2
  try dsimp only
  try k_fold
  k_steps
  exact ret _ _ _ (Stays.back (hg1.done (by assumption)) bk (fun p hp => News.at (by assumption) hp))
theorem true_port {w : World} {s : Shared} {Q : Value → Shared → Prop} (x d : Addr) (o : Obj) (ret : ∀ h' tk', Stays [] s.heap h' → Q (.bool true) { s with heap := h', toks := tk' }) :
   CallOk 3 60 w 371 [.ref x] [(x, instObj 274 d), (d, o)] s Q := by
  intro p loose mean mg mb dp un gd cn cs a ccd cl outer A₀ base h₀ L m E B F X N T hk hdp hun
  revert X; k_fill; intro X
  refine wpAny_call (enterH (K := Mine.K w.params) (binds := [("datum", .ref x)]) B F X N T rfl rfl hk (by k_is) (by k_is) (by ktr_room) (BindsTo.of_eq rfl) (locs rfl) ?_ rfl rfl rfl (by decide))
  intro g L' h' hg1 hg2 F' N' B' X' T' l1
  have bk : ∀ p ∈ [(x, instObj 274 d), (d, o)], s.heap.get? p.1 = some p.2 := fun p hp => (N p hp).1
  clear F N B X T hg2
  try dsimp only
  try k_fold
  k_steps
  exact ret _ _ (Stays.back (hg1.done (by assumption)) bk (fun p hp => News.at (by assumption) hp))
theorem boolean_port {w : World} {s : Shared} {Q : Value → Shared → Prop} (x d : Addr) (o : Obj) (ret : ∀ h' tk', Stays [] s.heap h' → Q (.bool false) { s with heap := h', toks := tk' }) :
   CallOk 3 60 w 364 [.ref x] [(x, instObj 274 d), (d, o)] s Q := by
  intro p loose mean mg mb dp un gd cn cs a ccd cl outer A₀ base h₀ L m E B F X N T hk hdp hun
  revert X; k_fill; intro X
  refine wpAny_call (enterH (K := Mine.K w.params) (binds := [("datum", .ref x)]) B F X N T rfl rfl hk (by k_is) (by k_is) (by ktr_room) (BindsTo.of_eq rfl) (locs rfl) ?_ rfl rfl rfl (by decide))
  intro g L' h' hg1 hg2 F' N' B' X' T' l1
  have bk : ∀ p ∈ [(x, instObj 274 d), (d, o)], s.heap.get? p.1 = some p.2 := fun p hp => (N p hp).1
  clear F N B X T hg2
  try dsimp only
  try k_fold
  k_steps
  exact ret _ _ (Stays.back (hg1.done (by assumption)) bk (fun p hp => News.at (by assumption) hp))
theorem whole_port {w : World} {s : Shared} {Q : Value → Shared → Prop} (x d : Addr) (o : Obj) (ret : ∀ h' tk', Stays [] s.heap h' → Q (.bool false) { s with heap := h', toks := tk' }) :
   CallOk 3 60 w 378 [.ref x] [(x, instObj 274 d), (d, o)] s Q := by
  intro p loose mean mg mb dp un gd cn cs a ccd cl outer A₀ base h₀ L m E B F X N T hk hdp hun
  revert X; k_fill; intro X
  refine wpAny_call (enterH (K := Mine.K w.params) (binds := [("datum", .ref x)]) B F X N T rfl rfl hk (by k_is) (by k_is) (by ktr_room) (BindsTo.of_eq rfl) (locs rfl) ?_ rfl rfl rfl (by decide))
  intro g L' h' hg1 hg2 F' N' B' X' T' l1
  have bk : ∀ p ∈ [(x, instObj 274 d), (d, o)], s.heap.get? p.1 = some p.2 := fun p hp => (N p hp).1
  clear F N B X T hg2
  try dsimp only
  try k_fold
  k_steps
  exact ret _ _ (Stays.back (hg1.done (by assumption)) bk (fun p hp => News.at (by assumption) hp))
theorem symbol_port {w : World} {s : Shared} {Q : Value → Shared → Prop} (x d : Addr) (o : Obj) (ret : ∀ h' tk', Stays [] s.heap h' → Q (.bool false) { s with heap := h', toks := tk' }) :
   CallOk 3 60 w 385 [.ref x] [(x, instObj 274 d), (d, o)] s Q := by
  intro p loose mean mg mb dp un gd cn cs a ccd cl outer A₀ base h₀ L m E B F X N T hk hdp hun
  revert X; k_fill; intro X
  refine wpAny_call (enterH (K := Mine.K w.params) (binds := [("datum", .ref x)]) B F X N T rfl rfl hk (by k_is) (by k_is) (by ktr_room) (BindsTo.of_eq rfl) (locs rfl) ?_ rfl rfl rfl (by decide))
  intro g L' h' hg1 hg2 F' N' B' X' T' l1
  have bk : ∀ p ∈ [(x, instObj 274 d), (d, o)], s.heap.get? p.1 = some p.2 := fun p hp => (N p hp).1
  clear F N B X T hg2
  try dsimp only
  try k_fold
  k_steps
  exact ret _ _ (Stays.back (hg1.done (by assumption)) bk (fun p hp => News.at (by assumption) hp))
theorem kind_procedure {w : World} {s : Shared} {Q : Value → Shared → Prop} (x d : Addr) (o : Obj) (ret : ∀ t h' tk', Stays [] s.heap h' → Q (.str "procedure" t) { s with heap := h', toks := tk' }) :
   CallOk 3 60 w 392 [.ref x] [(x, instObj 316 d), (d, o)] s Q := by
  intro p loose mean mg mb dp un gd cn cs a ccd cl outer A₀ base h₀ L m E B F X N T hk hdp hun
  revert X; k_fill; intro X
  refine wpAny_call (enterH (K := Mine.K w.params) (binds := [("datum", .ref x)]) B F X N T rfl rfl hk (by k_is) (by k_is) (by ktr_room) (BindsTo.of_eq rfl) (locs rfl) ?_ rfl rfl rfl (by decide))
  intro g L' h' hg1 hg2 F' N' B' X' T' l1
  have bk : ∀ p ∈ [(x, instObj 316 d), (d, o)], s.heap.get? p.1 = some p.2 := fun p hp => (N p hp).1
  clear F N B X T hg2
  try dsimp only
  try k_fold
  k_steps
  exact ret _ _ _ (Stays.back (hg1.done (by assumption)) bk (fun p hp => News.at (by assumption) hp))
theorem true_procedure {w : World} {s : Shared} {Q : Value → Shared → Prop} (x d : Addr) (o : Obj) (ret : ∀ h' tk', Stays [] s.heap h' → Q (.bool true) { s with heap := h', toks := tk' }) :
   CallOk 3 60 w 371 [.ref x] [(x, instObj 316 d), (d, o)] s Q := by
  intro p loose mean mg mb dp un gd cn cs a ccd cl outer A₀ base h₀ L m E B F X N T hk hdp hun
  revert X; k_fill; intro X
  refine wpAny_call (enterH (K := Mine.K w.params) (binds := [("datum", .ref x)]) B F X N T rfl rfl hk (by k_is) (by k_is) (by ktr_room) (BindsTo.of_eq rfl) (locs rfl) ?_ rfl rfl rfl (by decide))
  intro g L' h' hg1 hg2 F' N' B' X' T' l1
  have bk : ∀ p ∈ [(x, instObj 316 d), (d, o)], s.heap.get? p.1 = some p.2 := fun p hp => (N p hp).1
  clear F N B X T hg2
  try dsimp only
  try k_fold
  k_steps
  exact ret _ _ (Stays.back (hg1.done (by assumption)) bk (fun p hp => News.at (by assumption) hp))
theorem boolean_procedure {w : World} {s : Shared} {Q : Value → Shared → Prop} (x d : Addr) (o : Obj) (ret : ∀ h' tk', Stays [] s.heap h' → Q (.bool false) { s with heap := h', toks := tk' }) :
   CallOk 3 60 w 364 [.ref x] [(x, instObj 316 d), (d, o)] s Q := by
  intro p loose mean mg mb dp un gd cn cs a ccd cl outer A₀ base h₀ L m E B F X N T hk hdp hun
  revert X; k_fill; intro X
  refine wpAny_call (enterH (K := Mine.K w.params) (binds := [("datum", .ref x)]) B F X N T rfl rfl hk (by k_is) (by k_is) (by ktr_room) (BindsTo.of_eq rfl) (locs rfl) ?_ rfl rfl rfl (by decide))
  intro g L' h' hg1 hg2 F' N' B' X' T' l1
  have bk : ∀ p ∈ [(x, instObj 316 d), (d, o)], s.heap.get? p.1 = some p.2 := fun p hp => (N p hp).1
  clear F N B X T hg2
  try dsimp only
  try k_fold
  k_steps
  exact ret _ _ (Stays.back (hg1.done (by assumption)) bk (fun p hp => News.at (by assumption) hp))
theorem whole_procedure {w : World} {s : Shared} {Q : Value → Shared → Prop} (x d : Addr) (o : Obj) (ret : ∀ h' tk', Stays [] s.heap h' → Q (.bool false) { s with heap := h', toks := tk' }) :
   CallOk 3 60 w 378 [.ref x] [(x, instObj 316 d), (d, o)] s Q := by
  intro p loose mean mg mb dp un gd cn cs a ccd cl outer A₀ base h₀ L m E B F X N T hk hdp hun
  revert X; k_fill; intro X
  refine wpAny_call (enterH (K := Mine.K w.params) (binds := [("datum", .ref x)]) B F X N T rfl rfl hk (by k_is) (by k_is) (by ktr_room) (BindsTo.of_eq rfl) (locs rfl) ?_ rfl rfl rfl (by decide))
  intro g L' h' hg1 hg2 F' N' B' X' T' l1
  have bk : ∀ p ∈ [(x, instObj 316 d), (d, o)], s.heap.get? p.1 = some p.2 := fun p hp => (N p hp).1
  clear F N B X T hg2
  try dsimp only
  try k_fold
  k_steps
  exact ret _ _ (Stays.back (hg1.done (by assumption)) bk (fun p hp => News.at (by assumption) hp))
theorem symbol_procedure {w : World} {s : Shared} {Q : Value → Shared → Prop} (x d : Addr) (o : Obj) (ret : ∀ h' tk', Stays [] s.heap h' → Q (.bool false) { s with heap := h', toks := tk' }) :
   CallOk 3 60 w 385 [.ref x] [(x, instObj 316 d), (d, o)] s Q := by
  intro p loose mean mg mb dp un gd cn cs a ccd cl outer A₀ base h₀ L m E B F X N T hk hdp hun
  revert X; k_fill; intro X
  refine wpAny_call (enterH (K := Mine.K w.params) (binds := [("datum", .ref x)]) B F X N T rfl rfl hk (by k_is) (by k_is) (by ktr_room) (BindsTo.of_eq rfl) (locs rfl) ?_ rfl rfl rfl (by decide))
  intro g L' h' hg1 hg2 F' N' B' X' T' l1
  have bk : ∀ p ∈ [(x, instObj 316 d), (d, o)], s.heap.get? p.1 = some p.2 := fun p hp => (N p hp).1
  clear F N B X T hg2
  try dsimp only
  try k_fold
  k_steps
  exact ret _ _ (Stays.back (hg1.done (by assumption)) bk (fun p hp => News.at (by assumption) hp))
theorem kind_empty {w : World} {s : Shared} {Q : Value → Shared → Prop} (ret : ∀ t h' tk', Stays [] s.heap h' → Q (.str "empty" t) { s with heap := h', toks := tk' }) :
   CallOk 3 60 w 392 [.ref 37] [] s Q := by
  intro p loose mean mg mb dp un gd cn cs a ccd cl outer A₀ base h₀ L m E B F X N T hk hdp hun
  revert X; k_fill; intro X
  refine wpAny_call (enterH (K := Mine.K w.params) (binds := [("datum", .ref 37)]) B F X N T rfl rfl hk (by k_is) (by k_is) (by ktr_room) (BindsTo.of_eq rfl) (locs rfl) ?_ rfl rfl rfl (by decide))
  intro g L' h' hg1 hg2 F' N' B' X' T' l1
  clear F N B X T hg2
  try dsimp only
  try k_fold
  k_steps
  exact ret _ _ _ (hg1.done (by assumption))
theorem true_empty {w : World} {s : Shared} {Q : Value → Shared → Prop} (ret : ∀ h' tk', Stays [] s.heap h' → Q (.bool true) { s with heap := h', toks := tk' }) :
   CallOk 3 60 w 371 [.ref 37] [] s Q := by
  intro p loose mean mg mb dp un gd cn cs a ccd cl outer A₀ base h₀ L m E B F X N T hk hdp hun
  revert X; k_fill; intro X
  refine wpAny_call (enterH (K := Mine.K w.params) (binds := [("datum", .ref 37)]) B F X N T rfl rfl hk (by k_is) (by k_is) (by ktr_room) (BindsTo.of_eq rfl) (locs rfl) ?_ rfl rfl rfl (by decide))
  intro g L' h' hg1 hg2 F' N' B' X' T' l1
  clear F N B X T hg2
  try dsimp only
  try k_fold
  k_steps
  exact ret _ _ (hg1.done (by assumption))
theorem boolean_empty {w : World} {s : Shared} {Q : Value → Shared → Prop} (ret : ∀ h' tk', Stays [] s.heap h' → Q (.bool false) { s with heap := h', toks := tk' }) :
   CallOk 3 60 w 364 [.ref 37] [] s Q := by
  intro p loose mean mg mb dp un gd cn cs a ccd cl outer A₀ base h₀ L m E B F X N T hk hdp hun
  revert X; k_fill; intro X
  refine wpAny_call (enterH (K := Mine.K w.params) (binds := [("datum", .ref 37)]) B F X N T rfl rfl hk (by k_is) (by k_is) (by ktr_room) (BindsTo.of_eq rfl) (locs rfl) ?_ rfl rfl rfl (by decide))
  intro g L' h' hg1 hg2 F' N' B' X' T' l1
  clear F N B X T hg2
  try dsimp only
  try k_fold
  k_steps
  exact ret _ _ (hg1.done (by assumption))
theorem whole_empty {w : World} {s : Shared} {Q : Value → Shared → Prop} (ret : ∀ h' tk', Stays [] s.heap h' → Q (.bool false) { s with heap := h', toks := tk' }) :
   CallOk 3 60 w 378 [.ref 37] [] s Q := by
  intro p loose mean mg mb dp un gd cn cs a ccd cl outer A₀ base h₀ L m E B F X N T hk hdp hun
  revert X; k_fill; intro X
  refine wpAny_call (enterH (K := Mine.K w.params) (binds := [("datum", .ref 37)]) B F X N T rfl rfl hk (by k_is) (by k_is) (by ktr_room) (BindsTo.of_eq rfl) (locs rfl) ?_ rfl rfl rfl (by decide))
  intro g L' h' hg1 hg2 F' N' B' X' T' l1
  clear F N B X T hg2
  try dsimp only
  try k_fold
  k_steps
  exact ret _ _ (hg1.done (by assumption))
theorem symbol_empty {w : World} {s : Shared} {Q : Value → Shared → Prop} (ret : ∀ h' tk', Stays [] s.heap h' → Q (.bool false) { s with heap := h', toks := tk' }) :
   CallOk 3 60 w 385 [.ref 37] [] s Q := by
  intro p loose mean mg mb dp un gd cn cs a ccd cl outer A₀ base h₀ L m E B F X N T hk hdp hun
  revert X; k_fill; intro X
  refine wpAny_call (enterH (K := Mine.K w.params) (binds := [("datum", .ref 37)]) B F X N T rfl rfl hk (by k_is) (by k_is) (by ktr_room) (BindsTo.of_eq rfl) (locs rfl) ?_ rfl rfl rfl (by decide))
  intro g L' h' hg1 hg2 F' N' B' X' T' l1
  clear F N B X T hg2
  try dsimp only
  try k_fold
  k_steps
  exact ret _ _ (hg1.done (by assumption))
theorem kind_eof {w : World} {s : Shared} {Q : Value → Shared → Prop} (ret : ∀ t h' tk', Stays [] s.heap h' → Q (.str "eof" t) { s with heap := h', toks := tk' }) :
   CallOk 3 60 w 392 [.ref 46] [] s Q := by
  intro p loose mean mg mb dp un gd cn cs a ccd cl outer A₀ base h₀ L m E B F X N T hk hdp hun
  revert X; k_fill; intro X
  refine wpAny_call (enterH (K := Mine.K w.params) (binds := [("datum", .ref 46)]) B F X N T rfl rfl hk (by k_is) (by k_is) (by ktr_room) (BindsTo.of_eq rfl) (locs rfl) ?_ rfl rfl rfl (by decide))
  intro g L' h' hg1 hg2 F' N' B' X' T' l1
  clear F N B X T hg2
  try dsimp only
  try k_fold
  k_steps
  exact ret _ _ _ (hg1.done (by assumption))
theorem true_eof {w : World} {s : Shared} {Q : Value → Shared → Prop} (ret : ∀ h' tk', Stays [] s.heap h' → Q (.bool true) { s with heap := h', toks := tk' }) :
   CallOk 3 60 w 371 [.ref 46] [] s Q := by
  intro p loose mean mg mb dp un gd cn cs a ccd cl outer A₀ base h₀ L m E B F X N T hk hdp hun
  revert X; k_fill; intro X
  refine wpAny_call (enterH (K := Mine.K w.params) (binds := [("datum", .ref 46)]) B F X N T rfl rfl hk (by k_is) (by k_is) (by ktr_room) (BindsTo.of_eq rfl) (locs rfl) ?_ rfl rfl rfl (by decide))
  intro g L' h' hg1 hg2 F' N' B' X' T' l1
  clear F N B X T hg2
  try dsimp only
  try k_fold
  k_steps
  exact ret _ _ (hg1.done (by assumption))
theorem boolean_eof {w : World} {s : Shared} {Q : Value → Shared → Prop} (ret : ∀ h' tk', Stays [] s.heap h' → Q (.bool false) { s with heap := h', toks := tk' }) :
   CallOk 3 60 w 364 [.ref 46] [] s Q := by
  intro p loose mean mg mb dp un gd cn cs a ccd cl outer A₀ base h₀ L m E B F X N T hk hdp hun
  revert X; k_fill; intro X
  refine wpAny_call (enterH (K := Mine.K w.params) (binds := [("datum", .ref 46)]) B F X N T rfl rfl hk (by k_is) (by k_is) (by ktr_room) (BindsTo.of_eq rfl) (locs rfl) ?_ rfl rfl rfl (by decide))
  intro g L' h' hg1 hg2 F' N' B' X' T' l1
  clear F N B X T hg2
  try dsimp only
  try k_fold
  k_steps
  exact ret _ _ (hg1.done (by assumption))
theorem whole_eof {w : World} {s : Shared} {Q : Value → Shared → Prop} (ret : ∀ h' tk', Stays [] s.heap h' → Q (.bool false) { s with heap := h', toks := tk' }) :
   CallOk 3 60 w 378 [.ref 46] [] s Q := by
  intro p loose mean mg mb dp un gd cn cs a ccd cl outer A₀ base h₀ L m E B F X N T hk hdp hun
  revert X; k_fill; intro X
  refine wpAny_call (enterH (K := Mine.K w.params) (binds := [("datum", .ref 46)]) B F X N T rfl rfl hk (by k_is) (by k_is) (by ktr_room) (BindsTo.of_eq rfl) (locs rfl) ?_ rfl rfl rfl (by decide))
  intro g L' h' hg1 hg2 F' N' B' X' T' l1
  clear F N B X T hg2
  try dsimp only
  try k_fold
  k_steps
  exact ret _ _ (hg1.done (by assumption))
theorem symbol_eof {w : World} {s : Shared} {Q : Value → Shared → Prop} (ret : ∀ h' tk', Stays [] s.heap h' → Q (.bool false) { s with heap := h', toks := tk' }) :
   CallOk 3 60 w 385 [.ref 46] [] s Q := by
  intro p loose mean mg mb dp un gd cn cs a ccd cl outer A₀ base h₀ L m E B F X N T hk hdp hun
  revert X; k_fill; intro X
  refine wpAny_call (enterH (K := Mine.K w.params) (binds := [("datum", .ref 46)]) B F X N T rfl rfl hk (by k_is) (by k_is) (by ktr_room) (BindsTo.of_eq rfl) (locs rfl) ?_ rfl rfl rfl (by decide))
  intro g L' h' hg1 hg2 F' N' B' X' T' l1
  clear F N B X T hg2
  try dsimp only
  try k_fold
  k_steps
  exact ret _ _ (hg1.done (by assumption))
theorem kind_unspecified {w : World} {s : Shared} {Q : Value → Shared → Prop} (ret : ∀ t h' tk', Stays [] s.heap h' → Q (.str "unspecified" t) { s with heap := h', toks := tk' }) :
   CallOk 3 60 w 392 [.ref 40] [] s Q := by
  intro p loose mean mg mb dp un gd cn cs a ccd cl outer A₀ base h₀ L m E B F X N T hk hdp hun
  revert X; k_fill; intro X
  refine wpAny_call (enterH (K := Mine.K w.params) (binds := [("datum", .ref 40)]) B F X N T rfl rfl hk (by k_is) (by k_is) (by ktr_room) (BindsTo.of_eq rfl) (locs rfl) ?_ rfl rfl rfl (by decide))
  intro g L' h' hg1 hg2 F' N' B' X' T' l1
  clear F N B X T hg2
  try dsimp only
  try k_fold
  k_steps
  exact ret _ _ _ (hg1.done (by assumption))
theorem true_unspecified {w : World} {s : Shared} {Q : Value → Shared → Prop} (ret : ∀ h' tk', Stays [] s.heap h' → Q (.bool true) { s with heap := h', toks := tk' }) :
   CallOk 3 60 w 371 [.ref 40] [] s Q := by
  intro p loose mean mg mb dp un gd cn cs a ccd cl outer A₀ base h₀ L m E B F X N T hk hdp hun
  revert X; k_fill; intro X
  refine wpAny_call (enterH (K := Mine.K w.params) (binds := [("datum", .ref 40)]) B F X N T rfl rfl hk (by k_is) (by k_is) (by ktr_room) (BindsTo.of_eq rfl) (locs rfl) ?_ rfl rfl rfl (by decide))
  intro g L' h' hg1 hg2 F' N' B' X' T' l1
  clear F N B X T hg2
  try dsimp only
  try k_fold
  k_steps
  exact ret _ _ (hg1.done (by assumption))
theorem boolean_unspecified {w : World} {s : Shared} {Q : Value → Shared → Prop} (ret : ∀ h' tk', Stays [] s.heap h' → Q (.bool false) { s with heap := h', toks := tk' }) :
   CallOk 3 60 w 364 [.ref 40] [] s Q := by
  intro p loose mean mg mb dp un gd cn cs a ccd cl outer A₀ base h₀ L m E B F X N T hk hdp hun
  revert X; k_fill; intro X
  refine wpAny_call (enterH (K := Mine.K w.params) (binds := [("datum", .ref 40)]) B F X N T rfl rfl hk (by k_is) (by k_is) (by ktr_room) (BindsTo.of_eq rfl) (locs rfl) ?_ rfl rfl rfl (by decide))
  intro g L' h' hg1 hg2 F' N' B' X' T' l1
  clear F N B X T hg2
  try dsimp only
  try k_fold
  k_steps
  exact ret _ _ (hg1.done (by assumption))
theorem whole_unspecified {w : World} {s : Shared} {Q : Value → Shared → Prop} (ret : ∀ h' tk', Stays [] s.heap h' → Q (.bool false) { s with heap := h', toks := tk' }) :
   CallOk 3 60 w 378 [.ref 40] [] s Q := by
  intro p loose mean mg mb dp un gd cn cs a ccd cl outer A₀ base h₀ L m E B F X N T hk hdp hun
  revert X; k_fill; intro X
  refine wpAny_call (enterH (K := Mine.K w.params) (binds := [("datum", .ref 40)]) B F X N T rfl rfl hk (by k_is) (by k_is) (by ktr_room) (BindsTo.of_eq rfl) (locs rfl) ?_ rfl rfl rfl (by decide))
  intro g L' h' hg1 hg2 F' N' B' X' T' l1
  clear F N B X T hg2
  try dsimp only
  try k_fold
  k_steps
  exact ret _ _ (hg1.done (by assumption))
theorem symbol_unspecified {w : World} {s : Shared} {Q : Value → Shared → Prop} (ret : ∀ h' tk', Stays [] s.heap h' → Q (.bool false) { s with heap := h', toks := tk' }) :
   CallOk 3 60 w 385 [.ref 40] [] s Q := by
  intro p loose mean mg mb dp un gd cn cs a ccd cl outer A₀ base h₀ L m E B F X N T hk hdp hun
  revert X; k_fill; intro X
  refine wpAny_call (enterH (K := Mine.K w.params) (binds := [("datum", .ref 40)]) B F X N T rfl rfl hk (by k_is) (by k_is) (by ktr_room) (BindsTo.of_eq rfl) (locs rfl) ?_ rfl rfl rfl (by decide))
  intro g L' h' hg1 hg2 F' N' B' X' T' l1
  clear F N B X T hg2
  try dsimp only
  try k_fold
  k_steps
  exact ret _ _ (hg1.done (by assumption))
theorem kind_unassigned {w : World} {s : Shared} {Q : Value → Shared → Prop} (ret : ∀ t h' tk', Stays [] s.heap h' → Q (.str "unassigned" t) { s with heap := h', toks := tk' }) :
   CallOk 3 60 w 392 [.ref 43] [] s Q := by
  intro p loose mean mg mb dp un gd cn cs a ccd cl outer A₀ base h₀ L m E B F X N T hk hdp hun
  revert X; k_fill; intro X
  refine wpAny_call (enterH (K := Mine.K w.params) (binds := [("datum", .ref 43)]) B F X N T rfl rfl hk (by k_is) (by k_is) (by ktr_room) (BindsTo.of_eq rfl) (locs rfl) ?_ rfl rfl rfl (by decide))
  intro g L' h' hg1 hg2 F' N' B' X' T' l1
  clear F N B X T hg2
  try dsimp only
  try k_fold
  k_steps
  exact ret _ _ _ (hg1.done (by assumption))
theorem true_unassigned {w : World} {s : Shared} {Q : Value → Shared → Prop} (ret : ∀ h' tk', Stays [] s.heap h' → Q (.bool true) { s with heap := h', toks := tk' }) :
   CallOk 3 60 w 371 [.ref 43] [] s Q := by
  intro p loose mean mg mb dp un gd cn cs a ccd cl outer A₀ base h₀ L m E B F X N T hk hdp hun
  revert X; k_fill; intro X
  refine wpAny_call (enterH (K := Mine.K w.params) (binds := [("datum", .ref 43)]) B F X N T rfl rfl hk (by k_is) (by k_is) (by ktr_room) (BindsTo.of_eq rfl) (locs rfl) ?_ rfl rfl rfl (by decide))
  intro g L' h' hg1 hg2 F' N' B' X' T' l1
  clear F N B X T hg2
  try dsimp only
  try k_fold
  k_steps
  exact ret _ _ (hg1.done (by assumption))
theorem boolean_unassigned {w : World} {s : Shared} {Q : Value → Shared → Prop} (ret : ∀ h' tk', Stays [] s.heap h' → Q (.bool false) { s with heap := h', toks := tk' }) :
   CallOk 3 60 w 364 [.ref 43] [] s Q := by
  intro p loose mean mg mb dp un gd cn cs a ccd cl outer A₀ base h₀ L m E B F X N T hk hdp hun
  revert X; k_fill; intro X
  refine wpAny_call (enterH (K := Mine.K w.params) (binds := [("datum", .ref 43)]) B F X N T rfl rfl hk (by k_is) (by k_is) (by ktr_room) (BindsTo.of_eq rfl) (locs rfl) ?_ rfl rfl rfl (by decide))
  intro g L' h' hg1 hg2 F' N' B' X' T' l1
  clear F N B X T hg2
  try dsimp only
  try k_fold
  k_steps
  exact ret _ _ (hg1.done (by assumption))
theorem whole_unassigned {w : World} {s : Shared} {Q : Value → Shared → Prop} (ret : ∀ h' tk', Stays [] s.heap h' → Q (.bool false) { s with heap := h', toks := tk' }) :
   CallOk 3 60 w 378 [.ref 43] [] s Q := by
  intro p loose mean mg mb dp un gd cn cs a ccd cl outer A₀ base h₀ L m E B F X N T hk hdp hun
  revert X; k_fill; intro X
  refine wpAny_call (enterH (K := Mine.K w.params) (binds := [("datum", .ref 43)]) B F X N T rfl rfl hk (by k_is) (by k_is) (by ktr_room) (BindsTo.of_eq rfl) (locs rfl) ?_ rfl rfl rfl (by decide))
  intro g L' h' hg1 hg2 F' N' B' X' T' l1
  clear F N B X T hg2
  try dsimp only
  try k_fold
  k_steps
  exact ret _ _ (hg1.done (by assumption))
theorem symbol_unassigned {w : World} {s : Shared} {Q : Value → Shared → Prop} (ret : ∀ h' tk', Stays [] s.heap h' → Q (.bool false) { s with heap := h', toks := tk' }) :
   CallOk 3 60 w 385 [.ref 43] [] s Q := by
  intro p loose mean mg mb dp un gd cn cs a ccd cl outer A₀ base h₀ L m E B F X N T hk hdp hun
  revert X; k_fill; intro X
  refine wpAny_call (enterH (K := Mine.K w.params) (binds := [("datum", .ref 43)]) B F X N T rfl rfl hk (by k_is) (by k_is) (by ktr_room) (BindsTo.of_eq rfl) (locs rfl) ?_ rfl rfl rfl (by decide))
  intro g L' h' hg1 hg2 F' N' B' X' T' l1
  clear F N B X T hg2
  try dsimp only
  try k_fold
  k_steps
  exact ret _ _ (hg1.done (by assumption))
end Mine
end
section
open PySem PySem.W PyProof.Rows PySem.Calls PySem.Spec
namespace Mine
structure Asked (w : World) (x : Value) (led : List (Addr × Obj)) (wd : Str) (i : Nat) : Prop where
  kind : ∀ {s : Shared} {Q : Value → Shared → Prop}, (∀ t h' tk', Stays [] s.heap h' → Q (.str wd t) { s with heap := h', toks := tk' }) → CallOk 3 60 w 392 [x] led s Q
  tr : ∀ {s : Shared} {Q : Value → Shared → Prop}, (∀ h' tk', Stays [] s.heap h' → Q (.bool (decide (¬ i = 0))) { s with heap := h', toks := tk' }) → CallOk 3 60 w 371 [x] led s Q
  bo : ∀ {s : Shared} {Q : Value → Shared → Prop}, (∀ h' tk', Stays [] s.heap h' → Q (.bool (decide (i < 2))) { s with heap := h', toks := tk' }) → CallOk 3 60 w 364 [x] led s Q
  wh : ∀ {s : Shared} {Q : Value → Shared → Prop}, (∀ h' tk', Stays [] s.heap h' → Q (.bool (decide (i = 2))) { s with heap := h', toks := tk' }) → CallOk 3 60 w 378 [x] led s Q
  sy : ∀ {s : Shared} {Q : Value → Shared → Prop}, (∀ h' tk', Stays [] s.heap h' → Q (.bool (decide (i = 5))) { s with heap := h', toks := tk' }) → CallOk 3 60 w 385 [x] led s Q
  ha : handedIn x = true
abbrev tupO (x : Value) (wd : Str) (t : Tok) : Obj := { cls := .type "tuple", data := .seq #[x, .str wd t] }
def Good (w : World) (R : List (Addr × Obj)) (i : Nat) (v : Value) : Prop := ∃ u x wd t led, v = .ref u ∧ (u, tupO x wd t) ∈ R ∧ (∀ p ∈ led, p ∈ R) ∧ Asked w x led wd i
def Goods (w : World) (R : List (Addr × Obj)) : Nat → List Value → Prop
  | _, [] => True
  | k, v :: r => Good w R k v ∧ Goods w R (k + 1) r
theorem Good.sub {w : World} {R R' : List (Addr × Obj)} (h : ∀ p ∈ R, p ∈ R') {i : Nat} {v : Value} : Good w R i v → Good w R' i v
  | ⟨u, x, wd, t, led, e, m, l, a⟩ => ⟨u, x, wd, t, led, e, h _ m, fun p q => h p (l p q), a⟩
theorem Goods.sub {w : World} {R R' : List (Addr × Obj)} (h : ∀ p ∈ R, p ∈ R') : ∀ {us : List Value} {k : Nat}, Goods w R k us → Goods w R' k us
  | [], _, _ => trivial
  | _ :: _, _, ⟨a, b⟩ => ⟨a.sub h, Goods.sub h b⟩
theorem Goods.app {w : World} {R : List (Addr × Obj)} {vs : List Value} : ∀ {us : List Value} {k n : Nat}, Goods w R k us → us.length = n → Goods w R (k + n) vs → Goods w R k (us ++ vs)
  | [], _, _, _, e, h => by cases e; exact h
  | _ :: r, k, _, ⟨a, b⟩, e, h => by
    cases e
    exact ⟨a, Goods.app b rfl (by rw [show k + 1 + r.length = k + (r.length + 1) by omega]; exact h)⟩
theorem Goods.at {w : World} {R : List (Addr × Obj)} : ∀ {us : List Value} {k i : Nat}, Goods w R k us → i < us.length → ∃ v, us[i]? = some v ∧ Good w R (k + i) v
  | [], _, _, _, h => absurd h (Nat.not_lt_zero _)
  | v :: _, _, 0, ⟨a, _⟩, _ => ⟨v, rfl, a⟩
  | _ :: _, k, i + 1, ⟨_, b⟩, h => by
    obtain ⟨v, e, g⟩ := Goods.at b (Nat.lt_of_succ_lt_succ h)
    exact ⟨v, e, by rw [show k + (i + 1) = k + 1 + i by omega]; exact g⟩
theorem Good.mk {w : World} {R led : List (Addr × Obj)} {u : Addr} {x : Value} {wd : Str} {t : Tok} {i : Nat} (a : Asked w x led wd i) (m : (u, tupO x wd t) ∈ R) (l : ∀ p ∈ led, p ∈ R) : Good w R i (.ref u) := ⟨u, x, wd, t, led, rfl, m, l, a⟩
theorem two {R : List (Addr × Obj)} {a b : Addr × Obj} (h : a ∈ R) (k : b ∈ R) : ∀ p ∈ [a, b], p ∈ R := fun p hp => by
  cases hp with
  | head => exact h
  | tail _ hp => cases hp with
    | head => exact k
    | tail _ hp => cases hp
theorem zero {R : List (Addr × Obj)} : ∀ p ∈ ([] : List (Addr × Obj)), p ∈ R := fun p hp => by cases hp
theorem consSub {α : Type} {l l' : List α} {x : α} (s : ∀ p ∈ l, p ∈ l') : ∀ p ∈ x :: l, p ∈ x :: l' := fun p hp => by
  cases hp with
  | head => exact .head _
  | tail _ hp => exact .tail _ (s p hp)
theorem execs_mid0 {M : Model} {A : Around} {E : Value → Shared → Prop} {hp : Heap} {gens : Array GenState} {drawn : Drawn} {tk0 : Nat} {os : OsState} {env : Env} {h₀ : Heap} {L : Addr} {Q : Flow → Shared → Prop} {σ : Type} {st : Stmt} {rest : List Stmt} (ps : σ → List (Str × Value)) (Led : σ → List (Addr × Obj)) (R : σ → Prop) (h1 : wpAny M A (exec st env) (MidP h₀ L ⟨hp, gens, drawn, tk0, os⟩ ps Led R) E ⟨hp, gens, drawn, tk0, os⟩)
    (h2 : ∀ c (u : Str → Option Value) h tk, R c → Fr h₀ L h (kstB u (ps c)) → News h₀ L h (Led c) → wpAny M A (execs rest env) Q E ⟨h, gens, drawn, tk, os⟩) : wpAny M A (execs (st :: rest) env) Q E ⟨hp, gens, drawn, tk0, os⟩ := execs_mid ps Led R h1 fun c u h tk r _ F N => h2 c u h tk r F N
theorem len_fix {prog : Program} {w : World} {A : Around} {E : Value → Shared → Prop} {s : Shared} {l : Addr} {vs : List Value} {n : Nat} {z : Int} {Q : Value → Shared → Prop} (hl : s.heap.IsList l vs.toArray) (hn : vs.length = n) (hz : (n : Int) = z) (hf : Nat.ble n 1000 = true) (h : Q (.int z (s.toks + 1)) { s with toks := s.toks + 1 + 1 }) : wpAny (model prog w) A (call (.builtin "len") [.ref l]) Q E s := by
  have := Nat.le_of_ble_eq_true hf
  subst hn
  refine len_list hl (by rw [List.size_toArray]; omega) ?_
  rw [List.size_toArray, hz]; exact h
theorem asked_b0 {w : World} : Asked w (.bool false) [] "boolean" 0 := ⟨kind_b0, true_b0, boolean_b0, whole_b0, symbol_b0, rfl⟩
theorem asked_b1 {w : World} : Asked w (.bool true) [] "boolean" 1 := ⟨kind_b1, true_b1, boolean_b1, whole_b1, symbol_b1, rfl⟩
theorem asked_num {w : World} (i : Int) (t : Tok) : Asked w (.int i t) [] "number" 2 := ⟨kind_num i t, true_num i t, boolean_num i t, whole_num i t, symbol_num i t, rfl⟩
theorem asked_char {w : World} (x d : Addr) (o : Obj) : Asked w (.ref x) [(x, instObj 169 d), (d, o)] "char" 3 := ⟨kind_char x d o, true_char x d o, boolean_char x d o, whole_char x d o, symbol_char x d o, rfl⟩
theorem asked_empty {w : World} : Asked w (.ref 37) [] "empty" 4 := ⟨kind_empty, true_empty, boolean_empty, whole_empty, symbol_empty, rfl⟩
theorem asked_symbol {w : World} (x d : Addr) (o : Obj) : Asked w (.ref x) [(x, instObj 64 d), (d, o)] "symbol" 5 := ⟨kind_symbol x d o, true_symbol x d o, boolean_symbol x d o, whole_symbol x d o, symbol_symbol x d o, rfl⟩
theorem asked_pair {w : World} (x d : Addr) (o : Obj) : Asked w (.ref x) [(x, instObj 148 d), (d, o)] "pair" 6 := ⟨kind_pair x d o, true_pair x d o, boolean_pair x d o, whole_pair x d o, symbol_pair x d o, rfl⟩
theorem asked_vector {w : World} (x d : Addr) (o : Obj) : Asked w (.ref x) [(x, instObj 211 d), (d, o)] "vector" 7 := ⟨kind_vector x d o, true_vector x d o, boolean_vector x d o, whole_vector x d o, symbol_vector x d o, rfl⟩
theorem asked_string {w : World} (x d : Addr) (o : Obj) : Asked w (.ref x) [(x, instObj 190 d), (d, o)] "string" 8 := ⟨kind_string x d o, true_string x d o, boolean_string x d o, whole_string x d o, symbol_string x d o, rfl⟩
theorem asked_box {w : World} (x d : Addr) (o : Obj) : Asked w (.ref x) [(x, instObj 232 d), (d, o)] "box" 9 := ⟨kind_box x d o, true_box x d o, boolean_box x d o, whole_box x d o, symbol_box x d o, rfl⟩
theorem asked_promise {w : World} (x d : Addr) (o : Obj) : Asked w (.ref x) [(x, instObj 253 d), (d, o)] "promise" 10 := ⟨kind_promise x d o, true_promise x d o, boolean_promise x d o, whole_promise x d o, symbol_promise x d o, rfl⟩
theorem asked_port {w : World} (x d : Addr) (o : Obj) : Asked w (.ref x) [(x, instObj 274 d), (d, o)] "port" 11 := ⟨kind_port x d o, true_port x d o, boolean_port x d o, whole_port x d o, symbol_port x d o, rfl⟩
theorem asked_procedure {w : World} (x d : Addr) (o : Obj) : Asked w (.ref x) [(x, instObj 316 d), (d, o)] "procedure" 12 := ⟨kind_procedure x d o, true_procedure x d o, boolean_procedure x d o, whole_procedure x d o, symbol_procedure x d o, rfl⟩
theorem asked_eof {w : World} : Asked w (.ref 46) [] "eof" 13 := ⟨kind_eof, true_eof, boolean_eof, whole_eof, symbol_eof, rfl⟩
theorem asked_unspecified {w : World} : Asked w (.ref 40) [] "unspecified" 14 := ⟨kind_unspecified, true_unspecified, boolean_unspecified, whole_unspecified, symbol_unspecified, rfl⟩
theorem asked_unassigned {w : World} : Asked w (.ref 43) [] "unassigned" 15 := ⟨kind_unassigned, true_unassigned, boolean_unassigned, whole_unassigned, symbol_unassigned, rfl⟩
end Mine
end
section
open PySem PySem.W PyProof.Rows PySem.Calls PySem.Spec PyProof.V
namespace Mine
local macro_rules | `(tactic| walk_at "call ref") => `(tactic| (k_here; k_dflt (refine Mine.hold_ref [399, 392, 371, 364, 378, 385, 89, 323, 328] rfl ?_)))
local macro_rules | `(tactic| k_mem) => `(tactic| assumption)
local macro_rules | `(tactic| walk_at "Mperm") => `(tactic| first | (refine consSub ?_; walk_at "Mperm") | exact fun _ q => .tail _ (.tail _ q))
local macro_rules | `(tactic| walk_at "execs cons") => `(tactic| (k_here; (with_reducible show wpAny _ _ (execs (Stmt.Assign [Expr.Name (Str.ofString "told") _] _ _ :: _) _) _ _ _); refine hold_in ?_))
section
variable {prog : Program} {w : World} {A : Around} {E : Value → Shared → Prop} {s : Shared} {a b : Addr} {vs us : List Value} {Q : Value → Shared → Prop} {h₀ : Heap} {L : Addr} {m : Str → Option Value} {news : List (Addr × Obj)} {n : Nat}
theorem add_lit2 (F : Fr h₀ L s.heap m) (N : News h₀ L s.heap news) (ha : s.heap.IsList a vs.toArray) (hb : s.heap.IsList b us.toArray) (hl : vs.length = n) (hz : n + us.length ≤ sizeLine)
    (h : ∀ D h', Fr h₀ L h' m → News h₀ L h' ((D, listO (vs ++ us) 0) :: news) → (∀ p ∈ news, p.1 < D) → Q (.ref D) { s with heap := h' }) : wpAny (model prog w) A (binaryOp .Add (.ref a) (.ref b)) Q E s :=
  kmk_add_lit F N ha hb rfl h (by subst hl; exact hz)
end
local macro_rules | `(tactic| walk_at "binaryOp Add ref ref") => `(tactic| (k_here; k_dflt (refine' add_lit2 ?F ?N ?a ?b ?i ?z ?_; (case F => k_asm); (case N => k_asm); (case a => walk_at "Ml"); (case b => walk_at "Ml"); (case i => assumption); (case z => exact Nat.le_of_ble_eq_true rfl)); intro D' h' F' N' l1; (try k_sweep)))
local macro_rules | `(tactic| walk_at "call builtin:len") => `(tactic| (k_here; k_dflt (refine' len_fix (z := 16) ?hl ?hn ?hz ?hb ?_; (case hl => walk_at "Ml"); (case hn => assumption); (case hz => rfl); (case hb => rfl))))
theorem bne_self {a : Str} {P : Prop} (h : (a != a) = true) : P := by simp at h
theorem bne_same {p q : Bool} {P : Prop} (h : (p != q) = true) (e : p = q) : P := by subst e; simp at h
theorem w_e0 (i : Nat) : decide (¬ i = 0) = ((0 : Int) + (i : Int) * 1 != 0) := by
  rw [Bool.eq_iff_iff]; simp
theorem w_lt (i : Nat) : decide (i < 2) = decide ((0 : Int) + (i : Int) * 1 < 2) := by
  rw [Bool.eq_iff_iff]; simp; omega
theorem w_e2 (i : Nat) : decide (i = 2) = ((0 : Int) + (i : Int) * 1 == 2) := by
  rw [Bool.eq_iff_iff]; simp; omega
theorem w_e5 (i : Nat) : decide (i = 5) = ((0 : Int) + (i : Int) * 1 == 5) := by
  rw [Bool.eq_iff_iff]; simp; omega
structure V1 where
  v : Int
  tv : Tok
  tb : Addr
  td : Addr
  rl : Addr
  bd : Addr
  t1 : Tok
  t2 : Tok
  od : Obj
  dt : Tok
  dn : Nat
  R : List (Addr × Obj)
structure V2 where
  T : Addr
  n : Nat
  us : List Value
  R : List (Addr × Obj)
theorem words_ok {w : World} {s : Shared} {Q : Value → Shared → Prop} (dk ia : Addr) (vs : List Value) (ns : List Int) (k : Int) (t : Tok) (n : Nat)
   (hia : s.heap.IsList ia vs.toArray) (hne : ia ≠ dk) (hi : IntsAre vs ns) (hns : ns.length ≤ 63) (hk0 : 0 ≤ k) (hk1 : k < 900)
   (ret : ∀ h' tk', Stays [dk] s.heap h' → Q (.bool true) { s with heap := h', toks := tk' }) :
   CallOk 8 200 w 414 [.ref dk] [(dk, listO [.ref ia, .int k t] n)] s Q := by
  intro p loose mean mg mb dp un gd cn cs a ccd cl outer A₀ base h₀ L m E B F X N T hk hdp hun
  revert X; k_fill; intro X
  refine wpAny_call (enterHC (K := Mine.K w.params) (binds := [("deck", .ref dk)]) B F X N T rfl rfl hk (by k_is) (by k_is) (by ktr_room) (BindsTo.of_eq rfl) rfl (by decide +kernel) ?_ rfl rfl rfl)
  intro g L' h' tk' cells' hg1 hg2 F' N' Y' B' X' T' l1 htk
  have hia' : g.IsList ia vs.toArray := by
    obtain ⟨o, ho, r⟩ := hia
    exact ⟨o, hg1 _ _ ho (by simpa using hne), r⟩
  clear F N B X T hg2 htk
  (replace l1 := allLt_of l1; simp only [AllLt, and_true] at l1)
  k_cells Y'
  simp only [List.cons_append, List.nil_append] at N'
  have ldk : @LT.lt Nat _ dk L' := l1
  rename_i oC dC
  try dsimp only
  try k_fold
  refine execs_mid0 (h₀ := g) (L := L') (fun c : V1 => [("number", .int c.v c.tv), ("table", .ref c.tb)]) (fun c : V1 => (c.bd, c.od) :: (c.rl, listO [] 0) :: c.R)
    (fun c : V1 => (∀ p ∈ [(c.tb, instObj 127 c.td), (c.td, tabD w c.rl c.bd c.t1 c.t2), (L' + 1, oC), (dk, listO [.ref ia, .int (k + 1) c.dt] c.dn)], p ∈ c.R) ∧ (∀ p ∈ c.R, @Ne Nat p.1 c.rl) ∧ (∀ p ∈ c.R, @Ne Nat p.1 c.bd) ∧ @Ne Nat c.rl c.bd ∧ (c.bd == sysModules) = false ∧ c.od.IsDictOf (strKind PySem.Challenge.rw_nt0165_01.row.prog w) []) ?s1 ?r1
  case s1 =>
    k_steps
    refine hold_out ?_
    with_unfolding_all refine draw_use (by assumption) (by assumption) (by assumption) (by assumption) (by assumption) rfl (by ktr_room) (by ktr_units) (by k_updF) (Fr.lst (by assumption) hia') hne hi hns hk0 (by omega) (by decide) (by decide) ?_
    intro v tv t1 n1 h1 tk1 hv0 hv1 _ F1 N1
    clear hv0 hv1
    try dsimp only
    k_steps
    rename News _ _ _ _ => N9
    rename Fr _ _ _ _ => F9
    exact MidP.mk (⟨v, tv, _, _, _, _, _, _, _, _, _, _⟩ : V1) F9 N9 (fun _ q => .tail _ q) (by walk_at "Mps") ⟨fun _ q => q, by k_all, by k_all, by k_ne, by assumption, by assumption⟩
  case r1 =>
    clear F' N'
    rintro ⟨v, tv, tb, td, rl, bd, t1, t2, od, dt, dn, R1⟩ u h tk ⟨m1, o1, o2, ne1, lo, hod⟩ F N
    simp only at m1 o1 o2 ne1 lo hod F N
    refine execs_mid0 (h₀ := g) (L := L') (fun c : V2 => [("things", .ref c.T), ("table", .ref tb)]) (fun c : V2 => (bd, od) :: (rl, listO [] 0) :: c.R)
      (fun c : V2 => (∀ p ∈ R1, p ∈ c.R) ∧ (c.T, listO c.us c.n) ∈ c.R ∧ c.us.length = 5 ∧ Goods w c.R 0 c.us ∧ (∀ p ∈ c.R, @Ne Nat p.1 rl) ∧ (∀ p ∈ c.R, @Ne Nat p.1 bd)) ?s2 ?r2
    case s2 =>
      k_steps
      rename News _ _ _ _ => N9
      rename Fr _ _ _ _ => F9
      exact MidP.mk (⟨_, _, [_, _, _, _, _], _ :: _ :: _ :: _ :: _ :: _ :: _ :: _ :: R1⟩ : V2) F9 N9 (by refine Mine.allC ?a (Mine.allC ?b ?c); (case a => k_mem); (case b => k_mem); (case c => walk_at "Mperm")) (by walk_at "Mps")
        ⟨by walk_at "Msub", by k_mem, rfl, ⟨Good.mk asked_b0 (by k_mem) zero, Good.mk asked_b1 (by k_mem) zero, Good.mk (asked_num _ _) (by k_mem) zero, Good.mk (asked_char _ _ _) (by k_mem) (two (by k_mem) (by k_mem)), Good.mk asked_empty (by k_mem) zero, trivial⟩, by k_all, by k_all⟩
    case r2 =>
      clear F N o1 o2
      rintro ⟨T2, n2, us, R2⟩ u h tk ⟨sub2, mT, hus, G2, o1, o2⟩ F N
      simp only at sub2 mT hus G2 o1 o2 F N
      refine execs_mid0 (h₀ := g) (L := L') (fun c : V2 => [("things", .ref c.T)]) (fun c : V2 => c.R)
        (fun c : V2 => (∀ p ∈ R2, p ∈ c.R) ∧ (c.T, listO c.us c.n) ∈ c.R ∧ c.us.length = 9 ∧ Goods w c.R 0 c.us) ?s3 ?r3
      case s3 =>
        have mtb := sub2 _ (m1 _ (.head _))
        have mtd := sub2 _ (m1 _ (.tail _ (.head _)))
        k_steps
        refine hold_out ?_
        rename Fr _ _ _ _ => F4
        rename News _ _ _ _ => N4
        refine CallOk.use (D := 3) (U := 60) (ks := [(tb, instObj 127 td), (td, tabD w rl bd t1 t2), (rl, listO [] 0), (bd, od)]) (symbol_ok tb td rl bd t1 t2 [] 0 od [] _ _ none hod lo (by decide) (by decide) rfl (.inl rfl) ne1 ⟨o1 _ mtd, o2 _ mtd, o1 _ mtb, o2 _ mtb, ne1⟩ (fun _ _ _ q => by cases q) ?_) (by assumption) F4 (by assumption) (News.sub N4 (by walk_at "Mall")) (by assumption) rfl (by ktr_room) (by ktr_units)
        intro x xd tn tt' ta tb' n5 od' h5 tk5 _ S5 hx0 hxd0 hx1 hxd1 _ _ _
        have N5 : News g L' h5 R2 := News.upd N4 S5 fun p hp => .inl ⟨.tail _ (.tail _ hp), notin2 (o1 p hp) (o2 p hp)⟩
        have F5 : Fr g L' h5 _ := Fr.stays F4 S5 (notin2 (Ne.symm (N4 _ (.tail _ (.head _))).2.1) (Ne.symm (N4 _ (.head _)).2.1)) (Mine.allC (N4 _ (.tail _ (.head _))).2.2 (Mine.allC (N4 _ (.head _)).2.2 (List.forall_mem_nil _)))
        have N6 := News.add F4 (News.add F4 N5 hxd1 hxd0) hx1 hx0
        clear N4 F4 S5 N5 hx0 hxd0 hx1 hxd1 mtb mtd
        try dsimp only
        k_steps
        rename News _ _ _ _ => N9
        rename Fr _ _ _ _ => F9
        exact MidP.mk (⟨_, _, us ++ [_, _, _, _], _⟩ : V2) F9 N9 (fun _ q => q) (by walk_at "Mps")
          ⟨by walk_at "Msub", by k_mem, by rw [List.length_append, hus]; rfl, Goods.app (G2.sub (by walk_at "Msub")) hus ⟨Good.mk (asked_symbol _ _ _) (by k_mem) (two (by k_mem) (by k_mem)), Good.mk (asked_pair _ _ _) (by k_mem) (two (by k_mem) (by k_mem)), Good.mk (asked_vector _ _ _) (by k_mem) (two (by k_mem) (by k_mem)), Good.mk (asked_string _ _ _) (by k_mem) (two (by k_mem) (by k_mem)), trivial⟩⟩
      case r3 =>
        clear F N o1 o2 ne1 lo hod
        rintro ⟨T3, n3, us3, R3⟩ u h tk ⟨sub3, mT3, hus3, G3⟩ F N
        simp only at sub3 mT3 hus3 G3 F N
        clear mT hus G2
        refine execs_mid0 (h₀ := g) (L := L') (fun c : V2 => [("things", .ref c.T)]) (fun c : V2 => c.R)
          (fun c : V2 => (∀ p ∈ R3, p ∈ c.R) ∧ (c.T, listO c.us c.n) ∈ c.R ∧ c.us.length = 13 ∧ Goods w c.R 0 c.us) ?s4 ?r4
        case s4 =>
          clear sub2 sub3 m1
          k_steps
          rename News _ _ _ _ => N9
          rename Fr _ _ _ _ => F9
          exact MidP.mk (⟨_, _, us3 ++ [_, _, _, _], _⟩ : V2) F9 N9 (fun _ q => q) (by walk_at "Mps")
            ⟨by walk_at "Msub", by k_mem, by rw [List.length_append, hus3]; rfl, Goods.app (G3.sub (by walk_at "Msub")) hus3 ⟨Good.mk (asked_box _ _ _) (by k_mem) (two (by k_mem) (by k_mem)), Good.mk (asked_promise _ _ _) (by k_mem) (two (by k_mem) (by k_mem)), Good.mk (asked_port _ _ _) (by k_mem) (two (by k_mem) (by k_mem)), Good.mk (asked_procedure _ _ _) (by k_mem) (two (by k_mem) (by k_mem)), trivial⟩⟩
        case r4 =>
          clear F N
          rintro ⟨T4, n4, us4, R4⟩ u h tk ⟨sub4, mT4, hus4, G4⟩ F N
          simp only at sub4 mT4 hus4 G4 F N
          clear mT3 hus3 G3
          refine execs_mid0 (h₀ := g) (L := L') (fun c : V2 => [("things", .ref c.T)]) (fun c : V2 => c.R)
            (fun c : V2 => (∀ p ∈ R4, p ∈ c.R) ∧ (c.T, listO c.us c.n) ∈ c.R ∧ c.us.length = 16 ∧ Goods w c.R 0 c.us) ?s5 ?r5
          case s5 =>
            clear sub2 sub3 sub4 m1
            k_steps
            rename News _ _ _ _ => N9
            rename Fr _ _ _ _ => F9
            exact MidP.mk (⟨_, _, us4 ++ [_, _, _], _⟩ : V2) F9 N9 (fun _ q => q) (by walk_at "Mps")
              ⟨by walk_at "Msub", by k_mem, by rw [List.length_append, hus4]; rfl, Goods.app (G4.sub (by walk_at "Msub")) hus4 ⟨Good.mk asked_eof (by k_mem) zero, Good.mk asked_unspecified (by k_mem) zero, Good.mk asked_unassigned (by k_mem) zero, trivial⟩⟩
          case r5 =>
            clear F N
            rintro ⟨T5, n5, us5, R5⟩ u h tk ⟨sub5, mT5, hus5, G5⟩ F N
            simp only at sub5 mT5 hus5 G5 F N
            clear mT4 hus4 G4
            have hZ : ∀ p ∈ [(L' + 1, oC), (dk, listO [.ref ia, .int (k + 1) dt] dn)], p ∈ R5 := fun p hp => sub5 _ (sub4 _ (sub3 _ (sub2 _ (m1 _ (.tail _ (.tail _ hp))))))
            clear sub2 sub3 sub4 sub5 m1
            refine execs_mid0 (h₀ := g) (L := L') (fun _ : Unit => []) (fun _ : Unit => [(L' + 1, oC), (dk, listO [.ref ia, .int (k + 1) dt] dn)]) (fun _ => True) ?loop ?rest
            case loop =>
              (k_with "pyIter ref" => refine hold_in ?_)
              k_steps
              k_with_none
              refine hold_out ?_
              rename News _ _ _ _ => N9
              rename Fr _ _ _ _ => F9
              with_unfolding_all refine for_range (fun _ : Unit => R5) (fun _ : Unit => [("things", .ref T5)]) (fun _ _ => True) () (n := 16) rfl (by assumption) (by decide) (by decide) F9 N9 ?ps0 trivial ?turn ?done
              case ps0 => walk_at "Mps"
              case done =>
                rintro _ u h tk _ F N
                exact MidP.mk () F N hZ (fun p hp => by cases hp) trivial
              case turn =>
                clear F9 N9 hZ
                rintro i t _ u h tk I oi hi3 _ hneI F N
                change Fr g L' _ _ at F
                change News g L' _ _ at N
                obtain ⟨v5, hv5, u5, x5, wd5, t5, led5, rfl, mu5, hled5, A5⟩ := G5.at (i := i) (by rw [hus5]; exact hi3)
                clear G5 hus5
                rw [Nat.zero_add] at A5
                have ha5 := A5.ha
                k_steps
                refine hold_out ?_
                refine sub_pos (News.isList (by assumption) (by k_mem)) (by omega) (by omega) (x := .ref u5) (by rw [show ((0:Int) + (i:Int) * 1).toNat = i by omega]; exact hv5) ?_
                k_steps
                refine hold_out ?_
                refine CallOk.use (D := 3) (U := 60) (ks := led5) (A5.kind ?_) (by assumption) (by assumption) (by assumption) (News.sub (by assumption) (fun p hp => .tail _ (hled5 p hp))) (by assumption) rfl (by ktr_room) (by ktr_units)
                intro _ h5 tk5 S5
                obtain ⟨F5, N5⟩ := call_pure (by assumption) (by assumption) S5
                clear S5
                try dsimp only
                k_steps
                · exact bne_self (by assumption)
                refine hold_out ?_
                refine CallOk.use (D := 3) (U := 60) (ks := led5) (A5.tr ?_) (by assumption) (by assumption) (by assumption) (News.sub (by assumption) (fun p hp => .tail _ (hled5 p hp))) (by assumption) rfl (by ktr_room) (by ktr_units)
                intro h5 tk5 S5
                obtain ⟨F5, N5⟩ := call_pure (by assumption) (by assumption) S5
                clear S5
                try dsimp only
                k_steps
                · exact bne_same (by assumption) (w_e0 i)
                refine hold_out ?_
                refine CallOk.use (D := 3) (U := 60) (ks := led5) (A5.bo ?_) (by assumption) (by assumption) (by assumption) (News.sub (by assumption) (fun p hp => .tail _ (hled5 p hp))) (by assumption) rfl (by ktr_room) (by ktr_units)
                intro h5 tk5 S5
                obtain ⟨F5, N5⟩ := call_pure (by assumption) (by assumption) S5
                clear S5
                try dsimp only
                k_steps
                · exact bne_same (by assumption) (w_lt i)
                refine hold_out ?_
                refine CallOk.use (D := 3) (U := 60) (ks := led5) (A5.wh ?_) (by assumption) (by assumption) (by assumption) (News.sub (by assumption) (fun p hp => .tail _ (hled5 p hp))) (by assumption) rfl (by ktr_room) (by ktr_units)
                intro h5 tk5 S5
                obtain ⟨F5, N5⟩ := call_pure (by assumption) (by assumption) S5
                clear S5
                try dsimp only
                k_steps
                · exact bne_same (by assumption) (w_e2 i)
                refine hold_out ?_
                refine CallOk.use (D := 3) (U := 60) (ks := led5) (A5.sy ?_) (by assumption) (by assumption) (by assumption) (News.sub (by assumption) (fun p hp => .tail _ (hled5 p hp))) (by assumption) rfl (by ktr_room) (by ktr_units)
                intro h5 tk5 S5
                obtain ⟨F5, N5⟩ := call_pure (by assumption) (by assumption) S5
                clear S5
                try dsimp only
                k_steps
                · exact bne_same (by assumption) (w_e5 i)
                exact TurnE.mk () (by assumption) (by assumption) (fun _ q => q) hneI (by walk_at "Mps") trivial
            case rest =>
              clear F N
              rintro _ u h tk _ F N
              try dsimp only
              k_steps
              refine hold_out ?_
              refine CallOk.use (D := 3) (U := 60) (ks := []) (true_num _ _ ?_) (by assumption) (by assumption) (by assumption) (News.sub (by assumption) (fun p hp => by cases hp)) (by assumption) rfl (by ktr_room) (by ktr_units)
              intro h5 tk5 S5
              obtain ⟨F5, N5⟩ := call_pure (by assumption) (by assumption) S5
              clear S5
              try dsimp only
              k_steps
              refine hold_out ?_
              refine CallOk.use (D := 3) (U := 60) (ks := []) (boolean_num _ _ ?_) (by assumption) (by assumption) (by assumption) (News.sub (by assumption) (fun p hp => by cases hp)) (by assumption) rfl (by ktr_room) (by ktr_units)
              intro h5 tk5 S5
              obtain ⟨F5, N5⟩ := call_pure (by assumption) (by assumption) S5
              clear S5
              try dsimp only
              k_steps
              refine hold_out ?_
              refine CallOk.use (D := 3) (U := 60) (ks := []) (whole_b0 ?_) (by assumption) (by assumption) (by assumption) (News.sub (by assumption) (fun p hp => by cases hp)) (by assumption) rfl (by ktr_room) (by ktr_units)
              intro h5 tk5 S5
              obtain ⟨F5, N5⟩ := call_pure (by assumption) (by assumption) S5
              clear S5
              try dsimp only
              k_steps
              refine hold_out ?_
              refine CallOk.use (D := 3) (U := 60) (ks := []) (whole_num _ _ ?_) (by assumption) (by assumption) (by assumption) (News.sub (by assumption) (fun p hp => by cases hp)) (by assumption) rfl (by ktr_room) (by ktr_units)
              intro h5 tk5 S5
              obtain ⟨F5, N5⟩ := call_pure (by assumption) (by assumption) S5
              clear S5
              try dsimp only
              k_steps
              refine hold_out ?_
              with_unfolding_all refine draw_use (by assumption) (by assumption) (by assumption) (by assumption) (by assumption) rfl (by ktr_room) (by ktr_units) (by k_updF) (Fr.lst (by assumption) hia') hne hi hns (by omega) (by omega) (by decide) (by decide) ?_
              intro v5 tv5 t5 n5 h5 tk5 hv50 hv51 _ F5 N5
              try dsimp only
              k_steps
              refine hold_out ?_
              with_unfolding_all refine LCg.CompSrc.range (by rfl) (by assumption) (by assumption) (by assumption) (small_one (by decide) (by decide) (by omega) (by omega)) (rangeSize_nat _ _) (by rw [PySem.sizeLine_eq]; omega) ?_
              intro g'
              refine comp_inv (fun c : Int × Tok × Nat => [(L' + 1, oC), (dk, listO [.ref ia, .int c.1 c.2.1] c.2.2)]) (fun i ys c => c.1 = k + 2 + i ∧ ∃ ms, IntsAre ys ms ∧ ms.length = i ∧ ∀ m ∈ ms, 32 ≤ m ∧ m < 122) ((k + 1) + 1, t5, n5) ⟨by (try dsimp only); omega, [], .nil, rfl, fun _ h => by cases h⟩ ?turnC ?finC
              case turnC =>
                rintro i x ys ⟨kk, tt, nn⟩ I oI C oC2 D m₂ h tk E' hi2 ⟨tx, rfl⟩ ⟨hkk, ms, hms, hlen, hb⟩ hNs hx F N off hne2
                simp only at hkk N off ⊢
                try dsimp only
                k_steps
                refine hold_out ?_
                have hk8 : 0 ≤ kk := by clear hne2 off hns; omega
                have hk9 : kk < 1000 := by clear hne2 off hns; omega
                have o1 : @Ne Nat dk I ∧ @Ne Nat dk C ∧ @Ne Nat dk D := off (dk, _) (.tail _ (.head _))
                have o2 : @Ne Nat (L' + 1) I ∧ @Ne Nat (L' + 1) C ∧ @Ne Nat (L' + 1) D := off (L' + 1, _) (.head _)
                with_unfolding_all refine draw_use (by assumption) (by assumption) (by assumption) (by assumption) (by assumption) rfl (by ktr_room) (by ktr_units) (by k_updF) (Fr.lst (by assumption) hia') hne hi hns hk8 hk9 (by decide) (by decide) ?_
                intro v2 tv2 t2 n2 h2 tk2 hv20 hv21 _ F2 N2
                try dsimp only
                k_steps
                refine CompE.mk (kk + 1, t2, n2) (by assumption) (by assumption) (fun _ q => q) (by intro p hp; simp only [List.mem_cons, List.not_mem_nil, or_false] at hp; rcases hp with h | h <;> subst h <;> assumption) trivial ⟨?_, ms ++ [32 + v2], hms.append (.cons _ _ .nil), by simp [hlen], ?_⟩
                · simp only; omega
                · intro m hm
                  rcases List.mem_append.mp hm with q | q
                  · exact hb m q
                  · rw [List.mem_singleton.mp q]; omega
              case finC =>
                rintro ys ⟨kk, tt, nn⟩ ⟨hkk, ms, hms, hlen, hb⟩
                intro D h tk F N off
                simp only at hkk N off
                have hl4 : ms.length ≤ 4 := by omega
                have hlen2 := hms.length
                try dsimp only
                k_steps
                refine hold_out ?_
                rename News _ _ _ _ => N9
                rename Fr _ _ _ _ => F9
                refine execs_mid0 (h₀ := g) (L := L') (fun t : Tok => [("codes", .ref D), ("told", .str (joinedS ms) t)]) (fun _ : Tok => [(D, LCg.lst ys), (L' + 1, oC), (dk, listO [.ref ia, .int kk tt] nn)]) (fun _ => True) ?told ?last
                case told =>
                  k_steps
                  refine hold_out ?_
                  with_unfolding_all refine LCg.CompSrc.ledger (by rfl) (by assumption) (by assumption) (.head _) (by rw [List.size_toArray, PySem.sizeLine_eq]; omega) ?_
                  intro g2
                  refine comp_inv (fun _ : Unit => [(D, LCg.lst ys), (L' + 1, oC), (dk, listO [.ref ia, .int kk tt] nn)]) (fun i zs _ => StrsAre zs ((ms.take i).map chS)) () .nil ?turnH ?finH
                  case turnH =>
                    rintro i v zs _ I oI C oC2 D2 m₂ h tk E' hi2 hv hys hNs hx F N off hne2
                    obtain ⟨hj, t0, rfl⟩ := ints_at hms (by simpa using hv)
                    obtain ⟨hm1, hm2⟩ := hb _ (List.getElem_mem hj)
                    k_steps
                    exact CompE.mk () (by assumption) (by assumption) (fun _ q => q) off (.inr ⟨_, .head _, rfl, _, rfl⟩) (by rw [take_snoc hj, List.map_append]; exact kct_snoc hys)
                  case finH =>
                    rintro zs _ hzs
                    intro D2 h tk F N off2
                    rw [List.size_toArray, hlen2, List.take_length] at hzs
                    try dsimp only
                    k_steps
                    refine hold_out ?_
                    refine join_S (News.isList (by assumption) (by k_mem)) hzs (by omega) ?_
                    intro t' k'
                    try dsimp only
                    k_steps
                    exact MidP.mk t' (by assumption) (by assumption) (fun p hp => by repeat (first | exact hp | refine List.Mem.tail _ ?_)) (by walk_at "Mps") trivial
                case last =>
                  clear F9 N9
                  rintro t0 u h tk _ F N
                  try dsimp only
                  k_steps
                  refine hold_out ?_
                  with_unfolding_all refine CallOk.use (D := 3) (U := 60) (ptext_ok _ _ D _ ys ms _ hms hb hl4 ?_) (by assumption) (by assumption) (by assumption) (News.sub (by assumption) (fun p hp => by cases hp with | head => exact .head _ | tail _ h => cases h with | head => exact .tail _ (.head _) | tail _ h => cases h with | head => exact .tail _ (.tail _ (.head _)) | tail _ h => cases h)) (by assumption) rfl (by ktr_room) (by ktr_units)
                  intro t5' h5' tk5' S5
                  obtain ⟨F5, N5⟩ := call_pure (by assumption) (by assumption) S5
                  clear S5
                  try dsimp only
                  k_steps
                  all_goals first | (exfalso; rename ((joinedS ms == joinedS ms) = false) => q; simp at q; done) | skip
                  refine hold_out ?_
                  with_unfolding_all refine CallOk.use (D := 3) (U := 60) (mtext_ok ms t0 hb hl4 ?_) (by assumption) (by assumption) (by assumption) (News.sub (by assumption) (fun p hp => by cases hp)) (by assumption) rfl (by ktr_room) (by ktr_units)
                  intro x9 xd9 cl9 m9 vs9 n9' h9 tk9 S9 hv9 hc9
                  rename Fr _ _ _ _ => F8
                  rename News _ _ _ _ => N8
                  obtain ⟨F9, N9⟩ := call_pure F8 N8 S9
                  have M9 := News.app (News.adds F8 hc9) N9
                  clear F8 N8 N9 S9 hc9
                  simp only [List.cons_append, List.nil_append] at M9
                  try dsimp only
                  k_steps
                  exact ret _ _ (hg1.done (by assumption))
end Mine
end
end
end
section
open PySem PySem.W PyProof.Rows PySem.Calls PySem.Spec PyProof.V
local macro_rules | `(tactic| k_room) => `(tactic| ktr_room)
local macro_rules | `(tactic| k_units) => `(tactic| ktr_units)
local macro_rules | `(tactic| walk_at "call ref") => `(tactic| (k_here; k_dflt (refine Mine.hold_ref [404, 409, 414] rfl ?_)))
local macro_rules | `(tactic| walk_at "CompSrc") => `(tactic| refine Mine.hold_in ?_)
local macro_rules | `(tactic| walk_at "eval Name") => `(tactic| (k_here; (with_reducible show wpAny _ _ (eval (Expr.Name _ _) (compEnvC _ _ _ _)) _ _ _); k_dflt (refine LCgL.ld_built (by k_asm) (by k_asm) (by k_asm) (by k_is) (by boot_by_name) (by decide) ?_)))
namespace Mine
theorem execs_midF {M : Model} {A : Around} {E : Value → Shared → Prop} {s : Shared} {env : Env} {h₀ hx : Heap} {mx : Str → Option Value} {L : Addr} {Q : Flow → Shared → Prop} {σ : Type} {st : Stmt} {rest : List Stmt} (_ : Fr h₀ L hx mx) (ps : σ → List (Str × Value)) (Led : σ → List (Addr × Obj)) (R : σ → Prop) (h1 : wpAny M A (exec st env) (MidP h₀ L s ps Led R) E s)
    (h2 : ∀ c (u : Str → Option Value) h tk, R c → s.toks ≤ tk → Fr h₀ L h (kstB u (ps c)) → News h₀ L h (Led c) → wpAny M A (execs rest env) Q E { s with heap := h, toks := tk }) : wpAny M A (execs (st :: rest) env) Q E s := execs_mid ps Led R h1 h2
structure LS where
  dk : Addr
  D : Addr
  t : Tok
  ys : List Value
end Mine
theorem Mine.left2 : LeftO (RowW.prog (OpenRow.toRowW PySem.Challenge.rw_nt0165_01.row)) Mine.q [PySem.Str.ofString "EMPTY", PySem.Str.ofString "UNSPECIFIED", PySem.Str.ofString "UNASSIGNED", PySem.Str.ofString "EOF", PySem.Str.ofString "list_of"]
   (fun s => xlAt Mine.q [] s && recOk (RowW.records (OpenRow.toRowW PySem.Challenge.rw_nt0165_01.row)) s) (kHook Mine.K Mine.addrsL Mine.KA2).obs (kHook Mine.K Mine.addrsL Mine.KA2).val 7676 true := Mine.left
theorem PySem.Challenge.cw_nt0165_01_holds : PySem.Challenge.rw_nt0165_01.Holds := by
  o_law
  refine holds_open (q := Mine.q) (loose := [PySem.Str.ofString "EMPTY", PySem.Str.ofString "UNSPECIFIED", PySem.Str.ofString "UNASSIGNED", PySem.Str.ofString "EOF", PySem.Str.ofString "list_of"]) (Xt := fun s => xlAt Mine.q [] s && recOk (RowW.records (OpenRow.toRowW PySem.Challenge.rw_nt0165_01.row)) s) (XP := XL Mine.q []) (Yf := Hook.obs (kHook Mine.K Mine.addrsL Mine.KA2)) (Ya := Hook.val (kHook Mine.K Mine.addrsL Mine.KA2)) (YP := Hook.says (kHook Mine.K Mine.addrsL Mine.KA2)) (N := 7676) ?hl (Hook.of (kHook Mine.K Mine.addrsL Mine.KA2)) (Hook.keeps (kHook Mine.K Mine.addrsL Mine.KA2)) (fun s e => xl_of s (Bool.and_eq_true_iff.mp e).1) XL.keeps (by rfl) (by rfl) (by rfl) (fun s e => recFacts_of (Bool.and_eq_true_iff.mp e).2) (by rfl) (by first | assumption | decide +kernel) (by decide +kernel) ⟨rfl, rfl, rfl, rfl, rfl, by decide +kernel⟩ ?hw ?hc
  case hl => exact Mine.left2
  case hw => w_witness2
  case hc =>
    k_go0
    rename Fr _ _ _ _ => F0
    refine Mine.execs_midF F0 (fun c : Mine.LS => [("deck", .ref c.dk)]) (fun c : Mine.LS => [(c.dk, Mine.listO [.ref c.D, .int 0 c.t] 0), (c.D, LCg.lst c.ys)]) (fun c : Mine.LS => c.D ≠ c.dk ∧ ∃ ms, IntsAre c.ys ms ∧ ms.length ≤ 63) ?made ?calls
    case made =>
     k_steps
     refine Mine.hold_out ?_
     rename IntsAre _ (List.take _ _) => hws
     rename (List.take _ _).length = _ => hlw
     have hlv := hws.length
     with_unfolding_all refine LCg.CompSrc.ledger (by rfl) (by assumption) (by assumption) (.head _) (by rw [List.size_toArray, PySem.sizeLine_eq]; omega) ?_
     intro g'
     refine Mine.comp_inv (fun _ : Unit => [(_, W.listOf _ 0)]) (fun i ys _ => ∃ ms, IntsAre ys ms ∧ ms.length = i) () ⟨[], .nil, rfl⟩ ?turn ?fin
     case turn =>
       rintro i v ys _ I oI C oC D m₂ h tk E' hi2 hv ⟨ms, hms, hlen⟩ hNs hx F N off hne2
       obtain ⟨hj, t0, rfl⟩ := Mine.ints_at hws (by simpa using hv)
       k_steps
       exact Mine.CompE.mk () (by assumption) (by assumption) (fun _ q => q) off (.inr ⟨_, .head _, rfl, _, rfl⟩) ⟨_, hms.append (.cons _ _ .nil), by rw [List.length_append, hlen]; rfl⟩
     case fin =>
       rintro ys _ ⟨ms, hms, hlen⟩
       intro D h tk F N off
       have hns : ms.length ≤ 63 := by rw [hlen, List.size_toArray]; omega
       clear hlen hlw hlv
       try dsimp only
       k_steps
       exact Mine.MidP.mk ⟨_, D, _, ys⟩ (by assumption) (by assumption) (by intro p hp; cases hp with | head => exact .head _ | tail _ h => cases h with | head => exact .tail _ (.head _) | tail _ h => cases h) (by intro p hp; cases hp with | head => rfl | tail _ h => cases h) ⟨by (try dsimp only); k_ne, ms, hms, hns⟩
    case calls =>
      rintro ⟨dk, D, td, ys⟩ u h tk ⟨hne, ms, hms, hns⟩ gt F N
      have pt : 0 < tk := Nat.lt_of_lt_of_le (Nat.succ_pos _) gt
      clear F0 gt
      simp only at hne hms F N
      k_steps
      refine Mine.hold_out ?_
      with_unfolding_all refine Mine.wpAny_grow (Mine.CallOk.use (D := 8) (U := 200) (ks := [(_, Mine.listO [.ref D, .int 0 _] 0)]) (Mine.table_ok _ D ys ms 0 _ 0 (News.isList (by assumption) (by k_mem)) hne hms hns (by decide) (by decide) ?_) (by assumption) (by assumption) (by assumption) (Mine.News.sub (by assumption) (fun p hp => by rw [List.mem_singleton.mp hp]; first | exact .head _ | exact .tail _ (.head _))) (by assumption) rfl (by ktr_room) (by ktr_units))
      intro k0 t0 n0 h0 tk0 a0 b0 S0 e0 g0
      have p0 : 0 < tk0 := Nat.lt_of_lt_of_le pt g0.1
      clear g0
      obtain ⟨F5, N5⟩ := Mine.stays_upd (by assumption) (by assumption) (by k_upd) S0 e0
      clear S0 e0
      try dsimp only
      k_steps
      refine Mine.hold_out ?_
      with_unfolding_all refine Mine.CallOk.use (D := 8) (U := 200) (ks := [(_, Mine.listO [.ref D, .int k0 t0] n0)]) (Mine.listr_ok _ D ys ms k0 t0 n0 (News.isList (by assumption) (by k_mem)) hne hms hns (by omega) (by omega) ?_) (by assumption) (by assumption) (by assumption) (Mine.News.sub (by assumption) (fun p hp => by rw [List.mem_singleton.mp hp]; first | exact .head _ | exact .tail _ (.head _))) (by assumption) rfl (by ktr_room) (by ktr_units)
      intro k1 t1 n1 h1 tk1 a1 b1 S1 e1
      obtain ⟨F5, N5⟩ := Mine.stays_upd (by assumption) (by assumption) (by k_upd) S1 e1
      clear S1 e1
      try dsimp only
      k_steps
      refine Mine.hold_out ?_
      with_unfolding_all refine Mine.CallOk.use (D := 8) (U := 200) (ks := [(_, Mine.listO [.ref D, .int k1 t1] n1)]) (Mine.listr_ok _ D ys ms k1 t1 n1 (News.isList (by assumption) (by k_mem)) hne hms hns (by omega) (by omega) ?_) (by assumption) (by assumption) (by assumption) (Mine.News.sub (by assumption) (fun p hp => by rw [List.mem_singleton.mp hp]; first | exact .head _ | exact .tail _ (.head _))) (by assumption) rfl (by ktr_room) (by ktr_units)
      intro k2 t2 n2 h2 tk2 a2 b2 S2 e2
      obtain ⟨F5, N5⟩ := Mine.stays_upd (by assumption) (by assumption) (by k_upd) S2 e2
      clear S2 e2
      try dsimp only
      k_steps
      refine Mine.hold_out ?_
      with_unfolding_all refine Mine.CallOk.use (D := 8) (U := 200) (ks := [(_, Mine.listO [.ref D, .int k2 t2] n2)]) (Mine.listr_ok _ D ys ms k2 t2 n2 (News.isList (by assumption) (by k_mem)) hne hms hns (by omega) (by omega) ?_) (by assumption) (by assumption) (by assumption) (Mine.News.sub (by assumption) (fun p hp => by rw [List.mem_singleton.mp hp]; first | exact .head _ | exact .tail _ (.head _))) (by assumption) rfl (by ktr_room) (by ktr_units)
      intro k3 t3 n3 h3 tk3 a3 b3 S3 e3
      obtain ⟨F5, N5⟩ := Mine.stays_upd (by assumption) (by assumption) (by k_upd) S3 e3
      clear S3 e3
      try dsimp only
      k_steps
      refine Mine.hold_out ?_
      with_unfolding_all refine Mine.CallOk.use (D := 8) (U := 200) (ks := [(_, Mine.listO [.ref D, .int k3 t3] n3)]) (Mine.listr_ok _ D ys ms k3 t3 n3 (News.isList (by assumption) (by k_mem)) hne hms hns (by omega) (by omega) ?_) (by assumption) (by assumption) (by assumption) (Mine.News.sub (by assumption) (fun p hp => by rw [List.mem_singleton.mp hp]; first | exact .head _ | exact .tail _ (.head _))) (by assumption) rfl (by ktr_room) (by ktr_units)
      intro k4 t4 n4 h4 tk4 a4 b4 S4 e4
      obtain ⟨F5, N5⟩ := Mine.stays_upd (by assumption) (by assumption) (by k_upd) S4 e4
      clear S4 e4
      try dsimp only
      k_steps
      refine Mine.hold_out ?_
      rename Fr _ _ _ _ => F9
      rename News _ _ _ _ => N9
      have D9 := N9 _ (.head _)
      with_unfolding_all refine Mine.CallOk.use (D := 8) (U := 200) (ks := [(_, Mine.listO [.ref D, .int k4 t4] n4)]) (Mine.words_ok _ D ys ms k4 t4 n4 (News.isList (by assumption) (by k_mem)) hne hms hns (by omega) (by omega) ?_) (by assumption) (by assumption) (by assumption) (Mine.News.sub (by assumption) (fun p hp => by rw [List.mem_singleton.mp hp]; first | exact .head _ | exact .tail _ (.head _))) (by assumption) rfl (by ktr_room) (by ktr_units)
      intro h6 tk6 S6
      have F6 := Mine.Fr.stays F9 S6 (by simpa using Ne.symm D9.2.1) (by simpa using D9.2.2)
      clear F9 N9 D9 S6
      try dsimp only
      k_steps
end
end
