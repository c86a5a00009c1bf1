import PyProof.Rows.All
import Wide.All
import OpenK.AllK
import Wide.FinOn
import Lean
import PySem.Challenge.RW_ok0053_01
open PySem PySem.W PySem.Calls PyProof.Rows
set_option Elab.async false
namespace Mine
set_option maxRecDepth 100000
set_option maxHeartbeats 8000000
noncomputable abbrev PW : Program := PySem.Challenge.pw_ok0053_01
noncomputable abbrev RP : Program := PySem.Challenge.rw_ok0053_01.row.prog

/-- the i-th statement, a def -/
noncomputable def defAt (p : Program) (i : Nat) : Option (Str × Arguments × List Stmt × Scope) :=
  match p.main.body[i]? with
  | some (.FunctionDef n a b _ _ _ sc _ _ _) => some (n, a, b, sc)
  | _ => none
/-- the j-th statement of the i-th, a class -/
noncomputable def methAt (p : Program) (i j : Nat) : Option (Str × Arguments × List Stmt × Scope) :=
  match p.main.body[i]? with
  | some (.ClassDef _ _ _ bd _ _ _ _ _ _ _) => match bd[j]? with
    | some (.FunctionDef n a b _ _ _ sc _ _ _) => some (n, a, b, sc)
    | _ => none
  | _ => none
noncomputable def dAt (i : Nat) : Str × Arguments × List Stmt × Scope := (defAt PW i).getD default
noncomputable def mAt (i j : Nat) : Str × Arguments × List Stmt × Scope := (methAt PW i j).getD default

/-- what stands behind the top: printed by wip/Dump.lean -/
noncomputable def KK (P : PySem.Params) : Frag :=
  (nat_lit 0, (PySem.Obj.mk (PySem.Value.type "dict") (Option.none ) (PySem.Data.dict #[(PySem.DictEntry.mk (PySem.PyData.keyHash P (Str.ofString "__name__")) (PySem.Value.str (Str.ofString "__name__") 1) (PySem.Value.str (Str.ofString "builtins") 160)), (PySem.DictEntry.mk (PySem.PyData.keyHash P (Str.ofString "__doc__")) (PySem.Value.str (Str.ofString "__doc__") 2) (PySem.Value.builtin "builtins.__doc__:str#opaque")), (PySem.DictEntry.mk (PySem.PyData.keyHash P (Str.ofString "__package__")) (PySem.Value.str (Str.ofString "__package__") 3) (PySem.Value.builtin "builtins.__package__:str#opaque")), (PySem.DictEntry.mk (PySem.PyData.keyHash P (Str.ofString "__loader__")) (PySem.Value.str (Str.ofString "__loader__") 4) (PySem.Value.builtin "builtins.__loader__:shared#opaque")), (PySem.DictEntry.mk (PySem.PyData.keyHash P (Str.ofString "__spec__")) (PySem.Value.str (Str.ofString "__spec__") 5) (PySem.Value.builtin "builtins.__spec__#opaque")), (PySem.DictEntry.mk (PySem.PyData.keyHash P (Str.ofString "__build_class__")) (PySem.Value.str (Str.ofString "__build_class__") 6) (PySem.Value.builtin "__build_class__")), (PySem.DictEntry.mk (PySem.PyData.keyHash P (Str.ofString "__import__")) (PySem.Value.str (Str.ofString "__import__") 7) (PySem.Value.builtin "__import__")), (PySem.DictEntry.mk (PySem.PyData.keyHash P (Str.ofString "abs")) (PySem.Value.str (Str.ofString "abs") 8) (PySem.Value.builtin "abs")), (PySem.DictEntry.mk (PySem.PyData.keyHash P (Str.ofString "all")) (PySem.Value.str (Str.ofString "all") 9) (PySem.Value.builtin "all")), (PySem.DictEntry.mk (PySem.PyData.keyHash P (Str.ofString "any")) (PySem.Value.str (Str.ofString "any") 10) (PySem.Value.builtin "any")), (PySem.DictEntry.mk (PySem.PyData.keyHash P (Str.ofString "ascii")) (PySem.Value.str (Str.ofString "ascii") 11) (PySem.Value.builtin "ascii")), (PySem.DictEntry.mk (PySem.PyData.keyHash P (Str.ofString "bin")) (PySem.Value.str (Str.ofString "bin") 12) (PySem.Value.builtin "bin")), (PySem.DictEntry.mk (PySem.PyData.keyHash P (Str.ofString "breakpoint")) (PySem.Value.str (Str.ofString "breakpoint") 13) (PySem.Value.builtin "breakpoint")), (PySem.DictEntry.mk (PySem.PyData.keyHash P (Str.ofString "callable")) (PySem.Value.str (Str.ofString "callable") 14) (PySem.Value.builtin "callable")), (PySem.DictEntry.mk (PySem.PyData.keyHash P (Str.ofString "chr")) (PySem.Value.str (Str.ofString "chr") 15) (PySem.Value.builtin "chr")), (PySem.DictEntry.mk (PySem.PyData.keyHash P (Str.ofString "compile")) (PySem.Value.str (Str.ofString "compile") 16) (PySem.Value.builtin "compile")), (PySem.DictEntry.mk (PySem.PyData.keyHash P (Str.ofString "delattr")) (PySem.Value.str (Str.ofString "delattr") 17) (PySem.Value.builtin "delattr")), (PySem.DictEntry.mk (PySem.PyData.keyHash P (Str.ofString "dir")) (PySem.Value.str (Str.ofString "dir") 18) (PySem.Value.builtin "dir")), (PySem.DictEntry.mk (PySem.PyData.keyHash P (Str.ofString "divmod")) (PySem.Value.str (Str.ofString "divmod") 19) (PySem.Value.builtin "divmod")), (PySem.DictEntry.mk (PySem.PyData.keyHash P (Str.ofString "eval")) (PySem.Value.str (Str.ofString "eval") 20) (PySem.Value.builtin "eval")), (PySem.DictEntry.mk (PySem.PyData.keyHash P (Str.ofString "exec")) (PySem.Value.str (Str.ofString "exec") 21) (PySem.Value.builtin "exec")), (PySem.DictEntry.mk (PySem.PyData.keyHash P (Str.ofString "format")) (PySem.Value.str (Str.ofString "format") 22) (PySem.Value.builtin "format")), (PySem.DictEntry.mk (PySem.PyData.keyHash P (Str.ofString "getattr")) (PySem.Value.str (Str.ofString "getattr") 23) (PySem.Value.builtin "getattr")), (PySem.DictEntry.mk (PySem.PyData.keyHash P (Str.ofString "globals")) (PySem.Value.str (Str.ofString "globals") 24) (PySem.Value.builtin "globals")), (PySem.DictEntry.mk (PySem.PyData.keyHash P (Str.ofString "hasattr")) (PySem.Value.str (Str.ofString "hasattr") 25) (PySem.Value.builtin "hasattr")), (PySem.DictEntry.mk (PySem.PyData.keyHash P (Str.ofString "hash")) (PySem.Value.str (Str.ofString "hash") 26) (PySem.Value.builtin "hash")), (PySem.DictEntry.mk (PySem.PyData.keyHash P (Str.ofString "hex")) (PySem.Value.str (Str.ofString "hex") 27) (PySem.Value.builtin "hex")), (PySem.DictEntry.mk (PySem.PyData.keyHash P (Str.ofString "id")) (PySem.Value.str (Str.ofString "id") 28) (PySem.Value.builtin "id")), (PySem.DictEntry.mk (PySem.PyData.keyHash P (Str.ofString "input")) (PySem.Value.str (Str.ofString "input") 29) (PySem.Value.builtin "input")), (PySem.DictEntry.mk (PySem.PyData.keyHash P (Str.ofString "isinstance")) (PySem.Value.str (Str.ofString "isinstance") 30) (PySem.Value.builtin "isinstance")), (PySem.DictEntry.mk (PySem.PyData.keyHash P (Str.ofString "issubclass")) (PySem.Value.str (Str.ofString "issubclass") 31) (PySem.Value.builtin "issubclass")), (PySem.DictEntry.mk (PySem.PyData.keyHash P (Str.ofString "iter")) (PySem.Value.str (Str.ofString "iter") 32) (PySem.Value.builtin "iter")), (PySem.DictEntry.mk (PySem.PyData.keyHash P (Str.ofString "aiter")) (PySem.Value.str (Str.ofString "aiter") 33) (PySem.Value.builtin "aiter")), (PySem.DictEntry.mk (PySem.PyData.keyHash P (Str.ofString "len")) (PySem.Value.str (Str.ofString "len") 34) (PySem.Value.builtin "len")), (PySem.DictEntry.mk (PySem.PyData.keyHash P (Str.ofString "locals")) (PySem.Value.str (Str.ofString "locals") 35) (PySem.Value.builtin "locals")), (PySem.DictEntry.mk (PySem.PyData.keyHash P (Str.ofString "max")) (PySem.Value.str (Str.ofString "max") 36) (PySem.Value.builtin "max")), (PySem.DictEntry.mk (PySem.PyData.keyHash P (Str.ofString "min")) (PySem.Value.str (Str.ofString "min") 37) (PySem.Value.builtin "min")), (PySem.DictEntry.mk (PySem.PyData.keyHash P (Str.ofString "next")) (PySem.Value.str (Str.ofString "next") 38) (PySem.Value.builtin "next")), (PySem.DictEntry.mk (PySem.PyData.keyHash P (Str.ofString "anext")) (PySem.Value.str (Str.ofString "anext") 39) (PySem.Value.builtin "anext")), (PySem.DictEntry.mk (PySem.PyData.keyHash P (Str.ofString "oct")) (PySem.Value.str (Str.ofString "oct") 40) (PySem.Value.builtin "oct")), (PySem.DictEntry.mk (PySem.PyData.keyHash P (Str.ofString "ord")) (PySem.Value.str (Str.ofString "ord") 41) (PySem.Value.builtin "ord")), (PySem.DictEntry.mk (PySem.PyData.keyHash P (Str.ofString "pow")) (PySem.Value.str (Str.ofString "pow") 42) (PySem.Value.builtin "pow")), (PySem.DictEntry.mk (PySem.PyData.keyHash P (Str.ofString "print")) (PySem.Value.str (Str.ofString "print") 43) (PySem.Value.builtin "print")), (PySem.DictEntry.mk (PySem.PyData.keyHash P (Str.ofString "repr")) (PySem.Value.str (Str.ofString "repr") 44) (PySem.Value.builtin "repr")), (PySem.DictEntry.mk (PySem.PyData.keyHash P (Str.ofString "round")) (PySem.Value.str (Str.ofString "round") 45) (PySem.Value.builtin "round")), (PySem.DictEntry.mk (PySem.PyData.keyHash P (Str.ofString "setattr")) (PySem.Value.str (Str.ofString "setattr") 46) (PySem.Value.builtin "setattr")), (PySem.DictEntry.mk (PySem.PyData.keyHash P (Str.ofString "sorted")) (PySem.Value.str (Str.ofString "sorted") 47) (PySem.Value.builtin "sorted")), (PySem.DictEntry.mk (PySem.PyData.keyHash P (Str.ofString "sum")) (PySem.Value.str (Str.ofString "sum") 48) (PySem.Value.builtin "sum")), (PySem.DictEntry.mk (PySem.PyData.keyHash P (Str.ofString "vars")) (PySem.Value.str (Str.ofString "vars") 49) (PySem.Value.builtin "vars")), (PySem.DictEntry.mk (PySem.PyData.keyHash P (Str.ofString "None")) (PySem.Value.str (Str.ofString "None") 50) PySem.Value.none), (PySem.DictEntry.mk (PySem.PyData.keyHash P (Str.ofString "Ellipsis")) (PySem.Value.str (Str.ofString "Ellipsis") 51) PySem.Value.ellipsis), (PySem.DictEntry.mk (PySem.PyData.keyHash P (Str.ofString "NotImplemented")) (PySem.Value.str (Str.ofString "NotImplemented") 52) PySem.Value.notImplemented), (PySem.DictEntry.mk (PySem.PyData.keyHash P (Str.ofString "False")) (PySem.Value.str (Str.ofString "False") 53) (PySem.Value.bool Bool.false)), (PySem.DictEntry.mk (PySem.PyData.keyHash P (Str.ofString "True")) (PySem.Value.str (Str.ofString "True") 54) (PySem.Value.bool Bool.true)), (PySem.DictEntry.mk (PySem.PyData.keyHash P (Str.ofString "bool")) (PySem.Value.str (Str.ofString "bool") 55) (PySem.Value.type "bool")), (PySem.DictEntry.mk (PySem.PyData.keyHash P (Str.ofString "memoryview")) (PySem.Value.str (Str.ofString "memoryview") 56) (PySem.Value.type "memoryview")), (PySem.DictEntry.mk (PySem.PyData.keyHash P (Str.ofString "bytearray")) (PySem.Value.str (Str.ofString "bytearray") 57) (PySem.Value.type "bytearray")), (PySem.DictEntry.mk (PySem.PyData.keyHash P (Str.ofString "bytes")) (PySem.Value.str (Str.ofString "bytes") 58) (PySem.Value.type "bytes")), (PySem.DictEntry.mk (PySem.PyData.keyHash P (Str.ofString "classmethod")) (PySem.Value.str (Str.ofString "classmethod") 59) (PySem.Value.type "classmethod")), (PySem.DictEntry.mk (PySem.PyData.keyHash P (Str.ofString "complex")) (PySem.Value.str (Str.ofString "complex") 60) (PySem.Value.type "complex")), (PySem.DictEntry.mk (PySem.PyData.keyHash P (Str.ofString "dict")) (PySem.Value.str (Str.ofString "dict") 61) (PySem.Value.type "dict")), (PySem.DictEntry.mk (PySem.PyData.keyHash P (Str.ofString "enumerate")) (PySem.Value.str (Str.ofString "enumerate") 62) (PySem.Value.type "enumerate")), (PySem.DictEntry.mk (PySem.PyData.keyHash P (Str.ofString "filter")) (PySem.Value.str (Str.ofString "filter") 63) (PySem.Value.type "filter")), (PySem.DictEntry.mk (PySem.PyData.keyHash P (Str.ofString "float")) (PySem.Value.str (Str.ofString "float") 64) (PySem.Value.type "float")), (PySem.DictEntry.mk (PySem.PyData.keyHash P (Str.ofString "frozenset")) (PySem.Value.str (Str.ofString "frozenset") 65) (PySem.Value.type "frozenset")), (PySem.DictEntry.mk (PySem.PyData.keyHash P (Str.ofString "property")) (PySem.Value.str (Str.ofString "property") 66) (PySem.Value.type "property")), (PySem.DictEntry.mk (PySem.PyData.keyHash P (Str.ofString "int")) (PySem.Value.str (Str.ofString "int") 67) (PySem.Value.type "int")), (PySem.DictEntry.mk (PySem.PyData.keyHash P (Str.ofString "list")) (PySem.Value.str (Str.ofString "list") 68) (PySem.Value.type "list")), (PySem.DictEntry.mk (PySem.PyData.keyHash P (Str.ofString "map")) (PySem.Value.str (Str.ofString "map") 69) (PySem.Value.type "map")), (PySem.DictEntry.mk (PySem.PyData.keyHash P (Str.ofString "object")) (PySem.Value.str (Str.ofString "object") 70) (PySem.Value.type "object")), (PySem.DictEntry.mk (PySem.PyData.keyHash P (Str.ofString "range")) (PySem.Value.str (Str.ofString "range") 71) (PySem.Value.type "range")), (PySem.DictEntry.mk (PySem.PyData.keyHash P (Str.ofString "reversed")) (PySem.Value.str (Str.ofString "reversed") 72) (PySem.Value.type "reversed")), (PySem.DictEntry.mk (PySem.PyData.keyHash P (Str.ofString "set")) (PySem.Value.str (Str.ofString "set") 73) (PySem.Value.type "set")), (PySem.DictEntry.mk (PySem.PyData.keyHash P (Str.ofString "slice")) (PySem.Value.str (Str.ofString "slice") 74) (PySem.Value.type "slice")), (PySem.DictEntry.mk (PySem.PyData.keyHash P (Str.ofString "staticmethod")) (PySem.Value.str (Str.ofString "staticmethod") 75) (PySem.Value.type "staticmethod")), (PySem.DictEntry.mk (PySem.PyData.keyHash P (Str.ofString "str")) (PySem.Value.str (Str.ofString "str") 76) (PySem.Value.type "str")), (PySem.DictEntry.mk (PySem.PyData.keyHash P (Str.ofString "super")) (PySem.Value.str (Str.ofString "super") 77) (PySem.Value.type "super")), (PySem.DictEntry.mk (PySem.PyData.keyHash P (Str.ofString "tuple")) (PySem.Value.str (Str.ofString "tuple") 78) (PySem.Value.type "tuple")), (PySem.DictEntry.mk (PySem.PyData.keyHash P (Str.ofString "type")) (PySem.Value.str (Str.ofString "type") 79) (PySem.Value.type "type")), (PySem.DictEntry.mk (PySem.PyData.keyHash P (Str.ofString "zip")) (PySem.Value.str (Str.ofString "zip") 80) (PySem.Value.type "zip")), (PySem.DictEntry.mk (PySem.PyData.keyHash P (Str.ofString "__debug__")) (PySem.Value.str (Str.ofString "__debug__") 81) (PySem.Value.bool Bool.true)), (PySem.DictEntry.mk (PySem.PyData.keyHash P (Str.ofString "BaseException")) (PySem.Value.str (Str.ofString "BaseException") 82) (PySem.Value.type "BaseException")), (PySem.DictEntry.mk (PySem.PyData.keyHash P (Str.ofString "BaseExceptionGroup")) (PySem.Value.str (Str.ofString "BaseExceptionGroup") 83) (PySem.Value.type "BaseExceptionGroup")), (PySem.DictEntry.mk (PySem.PyData.keyHash P (Str.ofString "Exception")) (PySem.Value.str (Str.ofString "Exception") 84) (PySem.Value.type "Exception")), (PySem.DictEntry.mk (PySem.PyData.keyHash P (Str.ofString "GeneratorExit")) (PySem.Value.str (Str.ofString "GeneratorExit") 85) (PySem.Value.type "GeneratorExit")), (PySem.DictEntry.mk (PySem.PyData.keyHash P (Str.ofString "KeyboardInterrupt")) (PySem.Value.str (Str.ofString "KeyboardInterrupt") 86) (PySem.Value.type "KeyboardInterrupt")), (PySem.DictEntry.mk (PySem.PyData.keyHash P (Str.ofString "SystemExit")) (PySem.Value.str (Str.ofString "SystemExit") 87) (PySem.Value.type "SystemExit")), (PySem.DictEntry.mk (PySem.PyData.keyHash P (Str.ofString "ArithmeticError")) (PySem.Value.str (Str.ofString "ArithmeticError") 88) (PySem.Value.type "ArithmeticError")), (PySem.DictEntry.mk (PySem.PyData.keyHash P (Str.ofString "AssertionError")) (PySem.Value.str (Str.ofString "AssertionError") 89) (PySem.Value.type "AssertionError")), (PySem.DictEntry.mk (PySem.PyData.keyHash P (Str.ofString "AttributeError")) (PySem.Value.str (Str.ofString "AttributeError") 90) (PySem.Value.type "AttributeError")), (PySem.DictEntry.mk (PySem.PyData.keyHash P (Str.ofString "BufferError")) (PySem.Value.str (Str.ofString "BufferError") 91) (PySem.Value.type "BufferError")), (PySem.DictEntry.mk (PySem.PyData.keyHash P (Str.ofString "EOFError")) (PySem.Value.str (Str.ofString "EOFError") 92) (PySem.Value.type "EOFError")), (PySem.DictEntry.mk (PySem.PyData.keyHash P (Str.ofString "ImportError")) (PySem.Value.str (Str.ofString "ImportError") 93) (PySem.Value.type "ImportError")), (PySem.DictEntry.mk (PySem.PyData.keyHash P (Str.ofString "LookupError")) (PySem.Value.str (Str.ofString "LookupError") 94) (PySem.Value.type "LookupError")), (PySem.DictEntry.mk (PySem.PyData.keyHash P (Str.ofString "MemoryError")) (PySem.Value.str (Str.ofString "MemoryError") 95) (PySem.Value.type "MemoryError")), (PySem.DictEntry.mk (PySem.PyData.keyHash P (Str.ofString "NameError")) (PySem.Value.str (Str.ofString "NameError") 96) (PySem.Value.type "NameError")), (PySem.DictEntry.mk (PySem.PyData.keyHash P (Str.ofString "OSError")) (PySem.Value.str (Str.ofString "OSError") 97) (PySem.Value.type "OSError")), (PySem.DictEntry.mk (PySem.PyData.keyHash P (Str.ofString "ReferenceError")) (PySem.Value.str (Str.ofString "ReferenceError") 98) (PySem.Value.type "ReferenceError")), (PySem.DictEntry.mk (PySem.PyData.keyHash P (Str.ofString "RuntimeError")) (PySem.Value.str (Str.ofString "RuntimeError") 99) (PySem.Value.type "RuntimeError")), (PySem.DictEntry.mk (PySem.PyData.keyHash P (Str.ofString "StopAsyncIteration")) (PySem.Value.str (Str.ofString "StopAsyncIteration") 100) (PySem.Value.type "StopAsyncIteration")), (PySem.DictEntry.mk (PySem.PyData.keyHash P (Str.ofString "StopIteration")) (PySem.Value.str (Str.ofString "StopIteration") 101) (PySem.Value.type "StopIteration")), (PySem.DictEntry.mk (PySem.PyData.keyHash P (Str.ofString "SyntaxError")) (PySem.Value.str (Str.ofString "SyntaxError") 102) (PySem.Value.type "SyntaxError")), (PySem.DictEntry.mk (PySem.PyData.keyHash P (Str.ofString "SystemError")) (PySem.Value.str (Str.ofString "SystemError") 103) (PySem.Value.type "SystemError")), (PySem.DictEntry.mk (PySem.PyData.keyHash P (Str.ofString "TypeError")) (PySem.Value.str (Str.ofString "TypeError") 104) (PySem.Value.type "TypeError")), (PySem.DictEntry.mk (PySem.PyData.keyHash P (Str.ofString "ValueError")) (PySem.Value.str (Str.ofString "ValueError") 105) (PySem.Value.type "ValueError")), (PySem.DictEntry.mk (PySem.PyData.keyHash P (Str.ofString "Warning")) (PySem.Value.str (Str.ofString "Warning") 106) (PySem.Value.type "Warning")), (PySem.DictEntry.mk (PySem.PyData.keyHash P (Str.ofString "FloatingPointError")) (PySem.Value.str (Str.ofString "FloatingPointError") 107) (PySem.Value.type "FloatingPointError")), (PySem.DictEntry.mk (PySem.PyData.keyHash P (Str.ofString "OverflowError")) (PySem.Value.str (Str.ofString "OverflowError") 108) (PySem.Value.type "OverflowError")), (PySem.DictEntry.mk (PySem.PyData.keyHash P (Str.ofString "ZeroDivisionError")) (PySem.Value.str (Str.ofString "ZeroDivisionError") 109) (PySem.Value.type "ZeroDivisionError")), (PySem.DictEntry.mk (PySem.PyData.keyHash P (Str.ofString "BytesWarning")) (PySem.Value.str (Str.ofString "BytesWarning") 110) (PySem.Value.type "BytesWarning")), (PySem.DictEntry.mk (PySem.PyData.keyHash P (Str.ofString "DeprecationWarning")) (PySem.Value.str (Str.ofString "DeprecationWarning") 111) (PySem.Value.type "DeprecationWarning")), (PySem.DictEntry.mk (PySem.PyData.keyHash P (Str.ofString "EncodingWarning")) (PySem.Value.str (Str.ofString "EncodingWarning") 112) (PySem.Value.type "EncodingWarning")), (PySem.DictEntry.mk (PySem.PyData.keyHash P (Str.ofString "FutureWarning")) (PySem.Value.str (Str.ofString "FutureWarning") 113) (PySem.Value.type "FutureWarning")), (PySem.DictEntry.mk (PySem.PyData.keyHash P (Str.ofString "ImportWarning")) (PySem.Value.str (Str.ofString "ImportWarning") 114) (PySem.Value.type "ImportWarning")), (PySem.DictEntry.mk (PySem.PyData.keyHash P (Str.ofString "PendingDeprecationWarning")) (PySem.Value.str (Str.ofString "PendingDeprecationWarning") 115) (PySem.Value.type "PendingDeprecationWarning")), (PySem.DictEntry.mk (PySem.PyData.keyHash P (Str.ofString "ResourceWarning")) (PySem.Value.str (Str.ofString "ResourceWarning") 116) (PySem.Value.type "ResourceWarning")), (PySem.DictEntry.mk (PySem.PyData.keyHash P (Str.ofString "RuntimeWarning")) (PySem.Value.str (Str.ofString "RuntimeWarning") 117) (PySem.Value.type "RuntimeWarning")), (PySem.DictEntry.mk (PySem.PyData.keyHash P (Str.ofString "SyntaxWarning")) (PySem.Value.str (Str.ofString "SyntaxWarning") 118) (PySem.Value.type "SyntaxWarning")), (PySem.DictEntry.mk (PySem.PyData.keyHash P (Str.ofString "UnicodeWarning")) (PySem.Value.str (Str.ofString "UnicodeWarning") 119) (PySem.Value.type "UnicodeWarning")), (PySem.DictEntry.mk (PySem.PyData.keyHash P (Str.ofString "UserWarning")) (PySem.Value.str (Str.ofString "UserWarning") 120) (PySem.Value.type "UserWarning")), (PySem.DictEntry.mk (PySem.PyData.keyHash P (Str.ofString "BlockingIOError")) (PySem.Value.str (Str.ofString "BlockingIOError") 121) (PySem.Value.type "BlockingIOError")), (PySem.DictEntry.mk (PySem.PyData.keyHash P (Str.ofString "ChildProcessError")) (PySem.Value.str (Str.ofString "ChildProcessError") 122) (PySem.Value.type "ChildProcessError")), (PySem.DictEntry.mk (PySem.PyData.keyHash P (Str.ofString "ConnectionError")) (PySem.Value.str (Str.ofString "ConnectionError") 123) (PySem.Value.type "ConnectionError")), (PySem.DictEntry.mk (PySem.PyData.keyHash P (Str.ofString "FileExistsError")) (PySem.Value.str (Str.ofString "FileExistsError") 124) (PySem.Value.type "FileExistsError")), (PySem.DictEntry.mk (PySem.PyData.keyHash P (Str.ofString "FileNotFoundError")) (PySem.Value.str (Str.ofString "FileNotFoundError") 125) (PySem.Value.type "FileNotFoundError")), (PySem.DictEntry.mk (PySem.PyData.keyHash P (Str.ofString "InterruptedError")) (PySem.Value.str (Str.ofString "InterruptedError") 126) (PySem.Value.type "InterruptedError")), (PySem.DictEntry.mk (PySem.PyData.keyHash P (Str.ofString "IsADirectoryError")) (PySem.Value.str (Str.ofString "IsADirectoryError") 127) (PySem.Value.type "IsADirectoryError")), (PySem.DictEntry.mk (PySem.PyData.keyHash P (Str.ofString "NotADirectoryError")) (PySem.Value.str (Str.ofString "NotADirectoryError") 128) (PySem.Value.type "NotADirectoryError")), (PySem.DictEntry.mk (PySem.PyData.keyHash P (Str.ofString "PermissionError")) (PySem.Value.str (Str.ofString "PermissionError") 129) (PySem.Value.type "PermissionError")), (PySem.DictEntry.mk (PySem.PyData.keyHash P (Str.ofString "ProcessLookupError")) (PySem.Value.str (Str.ofString "ProcessLookupError") 130) (PySem.Value.type "ProcessLookupError")), (PySem.DictEntry.mk (PySem.PyData.keyHash P (Str.ofString "TimeoutError")) (PySem.Value.str (Str.ofString "TimeoutError") 131) (PySem.Value.type "TimeoutError")), (PySem.DictEntry.mk (PySem.PyData.keyHash P (Str.ofString "IndentationError")) (PySem.Value.str (Str.ofString "IndentationError") 132) (PySem.Value.type "IndentationError")), (PySem.DictEntry.mk (PySem.PyData.keyHash P (Str.ofString "_IncompleteInputError")) (PySem.Value.str (Str.ofString "_IncompleteInputError") 133) (PySem.Value.type "_IncompleteInputError")), (PySem.DictEntry.mk (PySem.PyData.keyHash P (Str.ofString "IndexError")) (PySem.Value.str (Str.ofString "IndexError") 134) (PySem.Value.type "IndexError")), (PySem.DictEntry.mk (PySem.PyData.keyHash P (Str.ofString "KeyError")) (PySem.Value.str (Str.ofString "KeyError") 135) (PySem.Value.type "KeyError")), (PySem.DictEntry.mk (PySem.PyData.keyHash P (Str.ofString "ModuleNotFoundError")) (PySem.Value.str (Str.ofString "ModuleNotFoundError") 136) (PySem.Value.type "ModuleNotFoundError")), (PySem.DictEntry.mk (PySem.PyData.keyHash P (Str.ofString "NotImplementedError")) (PySem.Value.str (Str.ofString "NotImplementedError") 137) (PySem.Value.type "NotImplementedError")), (PySem.DictEntry.mk (PySem.PyData.keyHash P (Str.ofString "PythonFinalizationError")) (PySem.Value.str (Str.ofString "PythonFinalizationError") 138) (PySem.Value.type "PythonFinalizationError")), (PySem.DictEntry.mk (PySem.PyData.keyHash P (Str.ofString "RecursionError")) (PySem.Value.str (Str.ofString "RecursionError") 139) (PySem.Value.type "RecursionError")), (PySem.DictEntry.mk (PySem.PyData.keyHash P (Str.ofString "UnboundLocalError")) (PySem.Value.str (Str.ofString "UnboundLocalError") 140) (PySem.Value.type "UnboundLocalError")), (PySem.DictEntry.mk (PySem.PyData.keyHash P (Str.ofString "UnicodeError")) (PySem.Value.str (Str.ofString "UnicodeError") 141) (PySem.Value.type "UnicodeError")), (PySem.DictEntry.mk (PySem.PyData.keyHash P (Str.ofString "BrokenPipeError")) (PySem.Value.str (Str.ofString "BrokenPipeError") 142) (PySem.Value.type "BrokenPipeError")), (PySem.DictEntry.mk (PySem.PyData.keyHash P (Str.ofString "ConnectionAbortedError")) (PySem.Value.str (Str.ofString "ConnectionAbortedError") 143) (PySem.Value.type "ConnectionAbortedError")), (PySem.DictEntry.mk (PySem.PyData.keyHash P (Str.ofString "ConnectionRefusedError")) (PySem.Value.str (Str.ofString "ConnectionRefusedError") 144) (PySem.Value.type "ConnectionRefusedError")), (PySem.DictEntry.mk (PySem.PyData.keyHash P (Str.ofString "ConnectionResetError")) (PySem.Value.str (Str.ofString "ConnectionResetError") 145) (PySem.Value.type "ConnectionResetError")), (PySem.DictEntry.mk (PySem.PyData.keyHash P (Str.ofString "TabError")) (PySem.Value.str (Str.ofString "TabError") 146) (PySem.Value.type "TabError")), (PySem.DictEntry.mk (PySem.PyData.keyHash P (Str.ofString "UnicodeDecodeError")) (PySem.Value.str (Str.ofString "UnicodeDecodeError") 147) (PySem.Value.type "UnicodeDecodeError")), (PySem.DictEntry.mk (PySem.PyData.keyHash P (Str.ofString "UnicodeEncodeError")) (PySem.Value.str (Str.ofString "UnicodeEncodeError") 148) (PySem.Value.type "UnicodeEncodeError")), (PySem.DictEntry.mk (PySem.PyData.keyHash P (Str.ofString "UnicodeTranslateError")) (PySem.Value.str (Str.ofString "UnicodeTranslateError") 149) (PySem.Value.type "UnicodeTranslateError")), (PySem.DictEntry.mk (PySem.PyData.keyHash P (Str.ofString "ExceptionGroup")) (PySem.Value.str (Str.ofString "ExceptionGroup") 150) (PySem.Value.type "ExceptionGroup")), (PySem.DictEntry.mk (PySem.PyData.keyHash P (Str.ofString "EnvironmentError")) (PySem.Value.str (Str.ofString "EnvironmentError") 151) (PySem.Value.type "OSError")), (PySem.DictEntry.mk (PySem.PyData.keyHash P (Str.ofString "IOError")) (PySem.Value.str (Str.ofString "IOError") 152) (PySem.Value.type "OSError")), (PySem.DictEntry.mk (PySem.PyData.keyHash P (Str.ofString "open")) (PySem.Value.str (Str.ofString "open") 153) (PySem.Value.builtin "open")), (PySem.DictEntry.mk (PySem.PyData.keyHash P (Str.ofString "quit")) (PySem.Value.str (Str.ofString "quit") 154) (PySem.Value.builtin "builtins.quit#opaque")), (PySem.DictEntry.mk (PySem.PyData.keyHash P (Str.ofString "exit")) (PySem.Value.str (Str.ofString "exit") 155) (PySem.Value.builtin "builtins.exit#opaque")), (PySem.DictEntry.mk (PySem.PyData.keyHash P (Str.ofString "copyright")) (PySem.Value.str (Str.ofString "copyright") 156) (PySem.Value.builtin "builtins.copyright#opaque")), (PySem.DictEntry.mk (PySem.PyData.keyHash P (Str.ofString "credits")) (PySem.Value.str (Str.ofString "credits") 157) (PySem.Value.builtin "builtins.credits#opaque")), (PySem.DictEntry.mk (PySem.PyData.keyHash P (Str.ofString "license")) (PySem.Value.str (Str.ofString "license") 158) (PySem.Value.builtin "builtins.license#opaque")), (PySem.DictEntry.mk (PySem.PyData.keyHash P (Str.ofString "help")) (PySem.Value.str (Str.ofString "help") 159) (PySem.Value.builtin "builtins.help#opaque"))] 159) #[])) ::
  (nat_lit 1, (PySem.Obj.mk (PySem.Value.type "dict") (Option.none ) (PySem.Data.dict #[(PySem.DictEntry.mk (PySem.PyData.keyHash P (Str.ofString "builtins")) (PySem.Value.str (Str.ofString "builtins") 162) (PySem.Value.ref 4)), (PySem.DictEntry.mk (PySem.PyData.keyHash P (Str.ofString "__main__")) (PySem.Value.str (Str.ofString "__main__") 163) (PySem.Value.ref 5))] 2) #[])) ::
  (nat_lit 2, (PySem.Obj.mk PySem.Value.none (Option.none ) (PySem.Data.dict #[(PySem.DictEntry.mk (PySem.PyData.keyHash P (Str.ofString "type.__subclasses__.Exception.0")) (PySem.Value.str (Str.ofString "type.__subclasses__.Exception.0") 261) (PySem.Value.int 66 0)), (PySem.DictEntry.mk (PySem.PyData.keyHash P (Str.ofString "type.__subclasses__.Exception.n")) (PySem.Value.str (Str.ofString "type.__subclasses__.Exception.n") 262) (PySem.Value.int 1 0))] 2) #[])) ::
  (nat_lit 3, (PySem.Obj.mk (PySem.Value.type "dict") (Option.none ) (PySem.Data.dict #[(PySem.DictEntry.mk (PySem.PyData.keyHash P (Str.ofString "__name__")) (PySem.Value.str (Str.ofString "__name__") 165) (PySem.Value.str (Str.ofString "law_ok0053_01") 510)), (PySem.DictEntry.mk (PySem.PyData.keyHash P (Str.ofString "__doc__")) (PySem.Value.str (Str.ofString "__doc__") 166) PySem.Value.none), (PySem.DictEntry.mk (PySem.PyData.keyHash P (Str.ofString "__package__")) (PySem.Value.str (Str.ofString "__package__") 167) PySem.Value.none), (PySem.DictEntry.mk (PySem.PyData.keyHash P (Str.ofString "__loader__")) (PySem.Value.str (Str.ofString "__loader__") 168) (PySem.Value.builtin "__main__.__loader__#opaque")), (PySem.DictEntry.mk (PySem.PyData.keyHash P (Str.ofString "__spec__")) (PySem.Value.str (Str.ofString "__spec__") 169) PySem.Value.none), (PySem.DictEntry.mk (PySem.PyData.keyHash P (Str.ofString "__annotations__")) (PySem.Value.str (Str.ofString "__annotations__") 170) (PySem.Value.ref 6)), (PySem.DictEntry.mk (PySem.PyData.keyHash P (Str.ofString "__builtins__")) (PySem.Value.str (Str.ofString "__builtins__") 171) (PySem.Value.ref 4)), (PySem.DictEntry.mk (PySem.PyData.keyHash P (Str.ofString "__file__")) (PySem.Value.str (Str.ofString "__file__") 173) (PySem.Value.str (Str.ofString "/claim/cut.py") 172)), (PySem.DictEntry.mk (PySem.PyData.keyHash P (Str.ofString "__cached__")) (PySem.Value.str (Str.ofString "__cached__") 174) PySem.Value.none), (PySem.DictEntry.mk (PySem.PyData.keyHash P (Str.ofString "_wall")) (PySem.Value.str (Str.ofString "_wall") 193) (PySem.Value.ref 21)), (PySem.DictEntry.mk (PySem.PyData.keyHash P (Str.ofString "META")) (PySem.Value.str (Str.ofString "META") 199) (PySem.Value.int 134217728 198)), (PySem.DictEntry.mk (PySem.PyData.keyHash P (Str.ofString "ESCAPE")) (PySem.Value.str (Str.ofString "ESCAPE") 201) (PySem.Value.int 27 200)), (PySem.DictEntry.mk (PySem.PyData.keyHash P (Str.ofString "is_sign")) (PySem.Value.str (Str.ofString "is_sign") 208) (PySem.Value.ref 28)), (PySem.DictEntry.mk (PySem.PyData.keyHash P (Str.ofString "has_meta")) (PySem.Value.str (Str.ofString "has_meta") 215) (PySem.Value.ref 35)), (PySem.DictEntry.mk (PySem.PyData.keyHash P (Str.ofString "without_meta")) (PySem.Value.str (Str.ofString "without_meta") 222) (PySem.Value.ref 42)), (PySem.DictEntry.mk (PySem.PyData.keyHash P (Str.ofString "spread_meta")) (PySem.Value.str (Str.ofString "spread_meta") 231) (PySem.Value.ref 49)), (PySem.DictEntry.mk (PySem.PyData.keyHash P (Str.ofString "LispSignal")) (PySem.Value.str (Str.ofString "LispSignal") 264) (PySem.Value.ref 66)), (PySem.DictEntry.mk (PySem.PyData.keyHash P (Str.ofString "Keymap")) (PySem.Value.str (Str.ofString "Keymap") 341) (PySem.Value.ref 122)), (PySem.DictEntry.mk (PySem.PyData.keyHash P (Str.ofString "is_keymap")) (PySem.Value.str (Str.ofString "is_keymap") 348) (PySem.Value.ref 133)), (PySem.DictEntry.mk (PySem.PyData.keyHash P (Str.ofString "chain_of")) (PySem.Value.str (Str.ofString "chain_of") 356) (PySem.Value.ref 140)), (PySem.DictEntry.mk (PySem.PyData.keyHash P (Str.ofString "set_parent")) (PySem.Value.str (Str.ofString "set_parent") 362) (PySem.Value.ref 145)), (PySem.DictEntry.mk (PySem.PyData.keyHash P (Str.ofString "NONE")) (PySem.Value.str (Str.ofString "NONE") 366) (PySem.Value.str (Str.ofString "none") 365)), (PySem.DictEntry.mk (PySem.PyData.keyHash P (Str.ofString "PREFIX")) (PySem.Value.str (Str.ofString "PREFIX") 368) (PySem.Value.str (Str.ofString "prefix") 367)), (PySem.DictEntry.mk (PySem.PyData.keyHash P (Str.ofString "BOUND")) (PySem.Value.str (Str.ofString "BOUND") 370) (PySem.Value.str (Str.ofString "bound") 369)), (PySem.DictEntry.mk (PySem.PyData.keyHash P (Str.ofString "LONG")) (PySem.Value.str (Str.ofString "LONG") 372) (PySem.Value.str (Str.ofString "long") 371)), (PySem.DictEntry.mk (PySem.PyData.keyHash P (Str.ofString "rows_along")) (PySem.Value.str (Str.ofString "rows_along") 378) (PySem.Value.ref 150)), (PySem.DictEntry.mk (PySem.PyData.keyHash P (Str.ofString "defaults_along")) (PySem.Value.str (Str.ofString "defaults_along") 384) (PySem.Value.ref 155)), (PySem.DictEntry.mk (PySem.PyData.keyHash P (Str.ofString "bindings_in")) (PySem.Value.str (Str.ofString "bindings_in") 394) (PySem.Value.ref 162)), (PySem.DictEntry.mk (PySem.PyData.keyHash P (Str.ofString "joined")) (PySem.Value.str (Str.ofString "joined") 403) (PySem.Value.ref 169)), (PySem.DictEntry.mk (PySem.PyData.keyHash P (Str.ofString "first_in")) (PySem.Value.str (Str.ofString "first_in") 413) (PySem.Value.ref 176)), (PySem.DictEntry.mk (PySem.PyData.keyHash P (Str.ofString "found_in")) (PySem.Value.str (Str.ofString "found_in") 425) (PySem.Value.ref 183)), (PySem.DictEntry.mk (PySem.PyData.keyHash P (Str.ofString "lookup_keys")) (PySem.Value.str (Str.ofString "lookup_keys") 439) (PySem.Value.ref 191)), (PySem.DictEntry.mk (PySem.PyData.keyHash P (Str.ofString "remapped")) (PySem.Value.str (Str.ofString "remapped") 449) (PySem.Value.ref 198)), (PySem.DictEntry.mk (PySem.PyData.keyHash P (Str.ofString "minor_maps")) (PySem.Value.str (Str.ofString "minor_maps") 457) (PySem.Value.ref 203)), (PySem.DictEntry.mk (PySem.PyData.keyHash P (Str.ofString "active_maps")) (PySem.Value.str (Str.ofString "active_maps") 470) (PySem.Value.ref 210)), (PySem.DictEntry.mk (PySem.PyData.keyHash P (Str.ofString "ActiveKeys")) (PySem.Value.str (Str.ofString "ActiveKeys") 509) (PySem.Value.ref 234)), (PySem.DictEntry.mk (PySem.PyData.keyHash P (Str.ofString "_law_draw")) (PySem.Value.str (Str.ofString "_law_draw") 519) (PySem.Value.ref 245)), (PySem.DictEntry.mk (PySem.PyData.keyHash P (Str.ofString "_law_map")) (PySem.Value.str (Str.ofString "_law_map") 534) (PySem.Value.ref 252)), (PySem.DictEntry.mk (PySem.PyData.keyHash P (Str.ofString "_law_chain")) (PySem.Value.str (Str.ofString "_law_chain") 542) (PySem.Value.ref 259)), (PySem.DictEntry.mk (PySem.PyData.keyHash P (Str.ofString "_law_one")) (PySem.Value.str (Str.ofString "_law_one") 548) (PySem.Value.ref 264)), (PySem.DictEntry.mk (PySem.PyData.keyHash P (Str.ofString "_law_found")) (PySem.Value.str (Str.ofString "_law_found") 563) (PySem.Value.ref 271)), (PySem.DictEntry.mk (PySem.PyData.keyHash P (Str.ofString "_law_due")) (PySem.Value.str (Str.ofString "_law_due") 573) (PySem.Value.ref 278)), (PySem.DictEntry.mk (PySem.PyData.keyHash P (Str.ofString "law")) (PySem.Value.str (Str.ofString "law") 579) (PySem.Value.ref 283))] 43) #[])) ::
  (nat_lit 4, (PySem.Obj.mk (PySem.Value.type "module") (Option.some 0) PySem.Data.plain #[])) ::
  (nat_lit 5, (PySem.Obj.mk (PySem.Value.type "module") (Option.some 3) PySem.Data.plain #[])) ::
  (nat_lit 6, (PySem.Obj.mk (PySem.Value.type "dict") (Option.none ) (PySem.Data.dict #[] 0) #[])) ::
  (nat_lit 7, (PySem.Obj.mk (PySem.Value.type "tuple") (Option.none ) (PySem.Data.seq #[] 0) #[])) ::
  (nat_lit 8, (PySem.Obj.mk PySem.Value.none (Option.none ) (PySem.Data.fields #[]) #[])) ::
  (nat_lit 9, (PySem.Obj.mk (PySem.Value.type "code") (Option.none ) (PySem.Data.fields #[(PySem.Value.str (Str.ofString "<module>") 176), (PySem.Value.str (Str.ofString "<module>") 177), (PySem.Value.str (Str.ofString "/claim/cut.py") 178), (PySem.Value.int 1 0), (PySem.Value.int 0 0), (PySem.Value.int 0 0), (PySem.Value.int 0 0), (PySem.Value.int 0 0), (PySem.Value.ref 7), (PySem.Value.bool Bool.false), (PySem.Value.int 175 0), (PySem.Value.ref 8), PySem.Value.none, PySem.Value.none, PySem.Value.none, PySem.Value.none, (PySem.Value.int 179 0), (PySem.Value.int 1 0), (PySem.Value.str (Str.ofString "/claim/cut.py") 180)]) #[])) ::
  (nat_lit 10, (PySem.Obj.mk (PySem.Value.type "frame") (Option.none ) PySem.Data.plain #[(Option.some (PySem.Value.ref 9)), (Option.some (PySem.Value.ref 3)), (Option.some (PySem.Value.ref 3)), (Option.none ), (Option.some (PySem.Value.str (Str.ofString "__main__") 164)), (Option.none ), (Option.some (PySem.Value.ref 0))])) ::
  (nat_lit 11, (PySem.Obj.mk (PySem.Value.type "tuple") (Option.none ) (PySem.Data.seq #[] 0) #[])) ::
  (nat_lit 12, (PySem.Obj.mk PySem.Value.none (Option.none ) (PySem.Data.fields #[(PySem.Value.int 1 0), (PySem.Value.int 0 0), (PySem.Value.ref 20), (PySem.Value.int 7 0), (PySem.Value.int 0 0), (PySem.Value.ref 27), (PySem.Value.int 9 0), (PySem.Value.int 0 0), (PySem.Value.ref 34), (PySem.Value.int 11 0), (PySem.Value.int 0 0), (PySem.Value.ref 41), (PySem.Value.int 13 0), (PySem.Value.int 0 0), (PySem.Value.ref 48), (PySem.Value.int 21 0), (PySem.Value.int 0 0), (PySem.Value.ref 55), (PySem.Value.int 27 0), (PySem.Value.int 0 0), (PySem.Value.ref 75), (PySem.Value.int 51 0), (PySem.Value.int 0 0), (PySem.Value.ref 132), (PySem.Value.int 53 0), (PySem.Value.int 0 0), (PySem.Value.ref 139), (PySem.Value.int 59 0), (PySem.Value.int 0 0), (PySem.Value.ref 144), (PySem.Value.int 68 0), (PySem.Value.int 0 0), (PySem.Value.ref 149), (PySem.Value.int 70 0), (PySem.Value.int 0 0), (PySem.Value.ref 154), (PySem.Value.int 72 0), (PySem.Value.int 0 0), (PySem.Value.ref 161), (PySem.Value.int 77 0), (PySem.Value.int 0 0), (PySem.Value.ref 168), (PySem.Value.int 85 0), (PySem.Value.int 0 0), (PySem.Value.ref 175), (PySem.Value.int 90 0), (PySem.Value.int 0 0), (PySem.Value.ref 182), (PySem.Value.int 99 0), (PySem.Value.int 0 0), (PySem.Value.ref 190), (PySem.Value.int 110 0), (PySem.Value.int 0 0), (PySem.Value.ref 197), (PySem.Value.int 114 0), (PySem.Value.int 0 0), (PySem.Value.ref 202), (PySem.Value.int 121 0), (PySem.Value.int 0 0), (PySem.Value.ref 209), (PySem.Value.int 126 0), (PySem.Value.int 0 0), (PySem.Value.ref 216), (PySem.Value.int 139 0), (PySem.Value.int 0 0), (PySem.Value.ref 244), (PySem.Value.int 144 0), (PySem.Value.int 0 0), (PySem.Value.ref 251), (PySem.Value.int 167 0), (PySem.Value.int 0 0), (PySem.Value.ref 258), (PySem.Value.int 173 0), (PySem.Value.int 0 0), (PySem.Value.ref 263), (PySem.Value.int 188 0), (PySem.Value.int 0 0), (PySem.Value.ref 270), (PySem.Value.int 203 0), (PySem.Value.int 0 0), (PySem.Value.ref 277), (PySem.Value.int 211 0), (PySem.Value.int 0 0), (PySem.Value.ref 282)]) #[])) ::
  (nat_lit 13, (PySem.Obj.mk (PySem.Value.type "code") (Option.none ) (PySem.Data.fields #[(PySem.Value.str (Str.ofString "<module>") 182), (PySem.Value.str (Str.ofString "<module>") 183), (PySem.Value.str (Str.ofString "/claim/cut.py") 184), (PySem.Value.int 1 0), (PySem.Value.int 0 0), (PySem.Value.int 0 0), (PySem.Value.int 0 0), (PySem.Value.int 0 0), (PySem.Value.ref 11), (PySem.Value.bool Bool.false), (PySem.Value.int 181 0), (PySem.Value.ref 12), PySem.Value.none, PySem.Value.none, PySem.Value.none, PySem.Value.none, (PySem.Value.int 185 0), (PySem.Value.int 1 0), (PySem.Value.str (Str.ofString "/claim/cut.py") 186)]) #[])) ::
  (nat_lit 14, (PySem.Obj.mk (PySem.Value.type "frame") (Option.none ) PySem.Data.plain #[(Option.some (PySem.Value.ref 13)), (Option.some (PySem.Value.ref 3)), (Option.some (PySem.Value.ref 3)), (Option.none ), (Option.some (PySem.Value.str (Str.ofString "__main__") 164)), (Option.none ), (Option.some (PySem.Value.ref 0))])) ::
  (nat_lit 15, (PySem.Obj.mk (PySem.Value.type "tuple") (Option.none ) (PySem.Data.seq #[] 0) #[])) ::
  (nat_lit 16, (PySem.Obj.mk PySem.Value.none (Option.none ) (PySem.Data.fields #[]) #[])) ::
  (nat_lit 17, (PySem.Obj.mk (PySem.Value.type "tuple") (Option.none ) (PySem.Data.seq #[(PySem.Value.str (Str.ofString "k") 190)] 0) #[])) ::
  (nat_lit 18, (PySem.Obj.mk (PySem.Value.type "tuple") (Option.none ) (PySem.Data.seq #[] 0) #[])) ::
  (nat_lit 19, (PySem.Obj.mk PySem.Value.none (Option.none ) (PySem.Data.func (PySem.FuncData.mk (Str.ofString "_wall") (Str.ofString "_wall") (dAt 0).2.1 (.stmts (dAt 0).2.2.1) (dAt 0).2.2.2 0 [] PySem.Value.none PySem.Value.none PySem.Value.none PySem.Value.none (Option.none ) PySem.Value.none PySem.Value.none 0)) #[])) ::
  (nat_lit 20, (PySem.Obj.mk (PySem.Value.type "code") (Option.none ) (PySem.Data.fields #[(PySem.Value.str (Str.ofString "_wall") 187), (PySem.Value.str (Str.ofString "_wall") 188), (PySem.Value.str (Str.ofString "/claim/cut.py") 189), (PySem.Value.int 1 0), (PySem.Value.int 1 0), (PySem.Value.int 0 0), (PySem.Value.int 0 0), (PySem.Value.int 3 0), (PySem.Value.ref 15), (PySem.Value.bool Bool.true), (PySem.Value.int 181 0), (PySem.Value.ref 16), PySem.Value.none, (PySem.Value.ref 17), (PySem.Value.ref 18), (PySem.Value.ref 19), (PySem.Value.int 191 0), (PySem.Value.int 1 0), (PySem.Value.str (Str.ofString "/claim/cut.py") 192)]) #[])) ::
  (nat_lit 21, (PySem.Obj.mk (PySem.Value.type "function") (Option.none ) (PySem.Data.func (PySem.FuncData.mk (Str.ofString "_wall") (Str.ofString "_wall") (dAt 0).2.1 (.stmts (dAt 0).2.2.1) (dAt 0).2.2.2 3 [] PySem.Value.none PySem.Value.none PySem.Value.none (PySem.Value.str (Str.ofString "__main__") 164) (Option.none ) (PySem.Value.ref 20) PySem.Value.none 0)) #[])) ::
  (nat_lit 22, (PySem.Obj.mk (PySem.Value.type "tuple") (Option.none ) (PySem.Data.seq #[] 0) #[])) ::
  (nat_lit 23, (PySem.Obj.mk PySem.Value.none (Option.none ) (PySem.Data.fields #[]) #[])) ::
  (nat_lit 24, (PySem.Obj.mk (PySem.Value.type "tuple") (Option.none ) (PySem.Data.seq #[(PySem.Value.str (Str.ofString "event") 205)] 0) #[])) ::
  (nat_lit 25, (PySem.Obj.mk (PySem.Value.type "tuple") (Option.none ) (PySem.Data.seq #[] 0) #[])) ::
  (nat_lit 26, (PySem.Obj.mk PySem.Value.none (Option.none ) (PySem.Data.func (PySem.FuncData.mk (Str.ofString "is_sign") (Str.ofString "is_sign") (dAt 4).2.1 (.stmts (dAt 4).2.2.1) (dAt 4).2.2.2 0 [] PySem.Value.none PySem.Value.none PySem.Value.none PySem.Value.none (Option.none ) PySem.Value.none PySem.Value.none 0)) #[])) ::
  (nat_lit 27, (PySem.Obj.mk (PySem.Value.type "code") (Option.none ) (PySem.Data.fields #[(PySem.Value.str (Str.ofString "is_sign") 202), (PySem.Value.str (Str.ofString "is_sign") 203), (PySem.Value.str (Str.ofString "/claim/cut.py") 204), (PySem.Value.int 7 0), (PySem.Value.int 1 0), (PySem.Value.int 0 0), (PySem.Value.int 0 0), (PySem.Value.int 3 0), (PySem.Value.ref 22), (PySem.Value.bool Bool.true), (PySem.Value.int 181 0), (PySem.Value.ref 23), PySem.Value.none, (PySem.Value.ref 24), (PySem.Value.ref 25), (PySem.Value.ref 26), (PySem.Value.int 206 0), (PySem.Value.int 7 0), (PySem.Value.str (Str.ofString "/claim/cut.py") 207)]) #[])) ::
  (nat_lit 28, (PySem.Obj.mk (PySem.Value.type "function") (Option.none ) (PySem.Data.func (PySem.FuncData.mk (Str.ofString "is_sign") (Str.ofString "is_sign") (dAt 4).2.1 (.stmts (dAt 4).2.2.1) (dAt 4).2.2.2 3 [] PySem.Value.none PySem.Value.none PySem.Value.none (PySem.Value.str (Str.ofString "emacs.events") 194) (Option.none ) (PySem.Value.ref 27) PySem.Value.none 0)) #[])) ::
  (nat_lit 29, (PySem.Obj.mk (PySem.Value.type "tuple") (Option.none ) (PySem.Data.seq #[] 0) #[])) ::
  (nat_lit 30, (PySem.Obj.mk PySem.Value.none (Option.none ) (PySem.Data.fields #[]) #[])) ::
  (nat_lit 31, (PySem.Obj.mk (PySem.Value.type "tuple") (Option.none ) (PySem.Data.seq #[(PySem.Value.str (Str.ofString "event") 212)] 0) #[])) ::
  (nat_lit 32, (PySem.Obj.mk (PySem.Value.type "tuple") (Option.none ) (PySem.Data.seq #[] 0) #[])) ::
  (nat_lit 33, (PySem.Obj.mk PySem.Value.none (Option.none ) (PySem.Data.func (PySem.FuncData.mk (Str.ofString "has_meta") (Str.ofString "has_meta") (dAt 5).2.1 (.stmts (dAt 5).2.2.1) (dAt 5).2.2.2 0 [] PySem.Value.none PySem.Value.none PySem.Value.none PySem.Value.none (Option.none ) PySem.Value.none PySem.Value.none 0)) #[])) ::
  (nat_lit 34, (PySem.Obj.mk (PySem.Value.type "code") (Option.none ) (PySem.Data.fields #[(PySem.Value.str (Str.ofString "has_meta") 209), (PySem.Value.str (Str.ofString "has_meta") 210), (PySem.Value.str (Str.ofString "/claim/cut.py") 211), (PySem.Value.int 9 0), (PySem.Value.int 1 0), (PySem.Value.int 0 0), (PySem.Value.int 0 0), (PySem.Value.int 3 0), (PySem.Value.ref 29), (PySem.Value.bool Bool.true), (PySem.Value.int 181 0), (PySem.Value.ref 30), PySem.Value.none, (PySem.Value.ref 31), (PySem.Value.ref 32), (PySem.Value.ref 33), (PySem.Value.int 213 0), (PySem.Value.int 9 0), (PySem.Value.str (Str.ofString "/claim/cut.py") 214)]) #[])) ::
  (nat_lit 35, (PySem.Obj.mk (PySem.Value.type "function") (Option.none ) (PySem.Data.func (PySem.FuncData.mk (Str.ofString "has_meta") (Str.ofString "has_meta") (dAt 5).2.1 (.stmts (dAt 5).2.2.1) (dAt 5).2.2.2 3 [] PySem.Value.none PySem.Value.none PySem.Value.none (PySem.Value.str (Str.ofString "emacs.events") 194) (Option.none ) (PySem.Value.ref 34) PySem.Value.none 0)) #[])) ::
  (nat_lit 36, (PySem.Obj.mk (PySem.Value.type "tuple") (Option.none ) (PySem.Data.seq #[] 0) #[])) ::
  (nat_lit 37, (PySem.Obj.mk PySem.Value.none (Option.none ) (PySem.Data.fields #[]) #[])) ::
  (nat_lit 38, (PySem.Obj.mk (PySem.Value.type "tuple") (Option.none ) (PySem.Data.seq #[(PySem.Value.str (Str.ofString "event") 219)] 0) #[])) ::
  (nat_lit 39, (PySem.Obj.mk (PySem.Value.type "tuple") (Option.none ) (PySem.Data.seq #[] 0) #[])) ::
  (nat_lit 40, (PySem.Obj.mk PySem.Value.none (Option.none ) (PySem.Data.func (PySem.FuncData.mk (Str.ofString "without_meta") (Str.ofString "without_meta") (dAt 6).2.1 (.stmts (dAt 6).2.2.1) (dAt 6).2.2.2 0 [] PySem.Value.none PySem.Value.none PySem.Value.none PySem.Value.none (Option.none ) PySem.Value.none PySem.Value.none 0)) #[])) ::
  (nat_lit 41, (PySem.Obj.mk (PySem.Value.type "code") (Option.none ) (PySem.Data.fields #[(PySem.Value.str (Str.ofString "without_meta") 216), (PySem.Value.str (Str.ofString "without_meta") 217), (PySem.Value.str (Str.ofString "/claim/cut.py") 218), (PySem.Value.int 11 0), (PySem.Value.int 1 0), (PySem.Value.int 0 0), (PySem.Value.int 0 0), (PySem.Value.int 3 0), (PySem.Value.ref 36), (PySem.Value.bool Bool.true), (PySem.Value.int 181 0), (PySem.Value.ref 37), PySem.Value.none, (PySem.Value.ref 38), (PySem.Value.ref 39), (PySem.Value.ref 40), (PySem.Value.int 220 0), (PySem.Value.int 11 0), (PySem.Value.str (Str.ofString "/claim/cut.py") 221)]) #[])) ::
  (nat_lit 42, (PySem.Obj.mk (PySem.Value.type "function") (Option.none ) (PySem.Data.func (PySem.FuncData.mk (Str.ofString "without_meta") (Str.ofString "without_meta") (dAt 6).2.1 (.stmts (dAt 6).2.2.1) (dAt 6).2.2.2 3 [] PySem.Value.none PySem.Value.none PySem.Value.none (PySem.Value.str (Str.ofString "emacs.events") 194) (Option.none ) (PySem.Value.ref 41) PySem.Value.none 0)) #[])) ::
  (nat_lit 43, (PySem.Obj.mk (PySem.Value.type "tuple") (Option.none ) (PySem.Data.seq #[] 0) #[])) ::
  (nat_lit 44, (PySem.Obj.mk PySem.Value.none (Option.none ) (PySem.Data.fields #[]) #[])) ::
  (nat_lit 45, (PySem.Obj.mk (PySem.Value.type "tuple") (Option.none ) (PySem.Data.seq #[(PySem.Value.str (Str.ofString "keys") 226), (PySem.Value.str (Str.ofString "found") 227), (PySem.Value.str (Str.ofString "event") 228)] 0) #[])) ::
  (nat_lit 46, (PySem.Obj.mk (PySem.Value.type "tuple") (Option.none ) (PySem.Data.seq #[] 0) #[])) ::
  (nat_lit 47, (PySem.Obj.mk PySem.Value.none (Option.none ) (PySem.Data.func (PySem.FuncData.mk (Str.ofString "spread_meta") (Str.ofString "spread_meta") (dAt 7).2.1 (.stmts (dAt 7).2.2.1) (dAt 7).2.2.2 0 [] PySem.Value.none PySem.Value.none PySem.Value.none PySem.Value.none (Option.none ) PySem.Value.none PySem.Value.none 0)) #[])) ::
  (nat_lit 48, (PySem.Obj.mk (PySem.Value.type "code") (Option.none ) (PySem.Data.fields #[(PySem.Value.str (Str.ofString "spread_meta") 223), (PySem.Value.str (Str.ofString "spread_meta") 224), (PySem.Value.str (Str.ofString "/claim/cut.py") 225), (PySem.Value.int 13 0), (PySem.Value.int 1 0), (PySem.Value.int 0 0), (PySem.Value.int 0 0), (PySem.Value.int 3 0), (PySem.Value.ref 43), (PySem.Value.bool Bool.true), (PySem.Value.int 181 0), (PySem.Value.ref 44), PySem.Value.none, (PySem.Value.ref 45), (PySem.Value.ref 46), (PySem.Value.ref 47), (PySem.Value.int 229 0), (PySem.Value.int 13 0), (PySem.Value.str (Str.ofString "/claim/cut.py") 230)]) #[])) ::
  (nat_lit 49, (PySem.Obj.mk (PySem.Value.type "function") (Option.none ) (PySem.Data.func (PySem.FuncData.mk (Str.ofString "spread_meta") (Str.ofString "spread_meta") (dAt 7).2.1 (.stmts (dAt 7).2.2.1) (dAt 7).2.2.2 3 [] PySem.Value.none PySem.Value.none PySem.Value.none (PySem.Value.str (Str.ofString "emacs.events") 194) (Option.none ) (PySem.Value.ref 48) PySem.Value.none 0)) #[])) ::
  (nat_lit 50, (PySem.Obj.mk (PySem.Value.type "tuple") (Option.none ) (PySem.Data.seq #[(PySem.Value.type "Exception")] 0) #[])) ::
  (nat_lit 57, (PySem.Obj.mk (PySem.Value.type "tuple") (Option.none ) (PySem.Data.seq #[] 0) #[])) ::
  (nat_lit 58, (PySem.Obj.mk PySem.Value.none (Option.none ) (PySem.Data.fields #[]) #[])) ::
  (nat_lit 59, (PySem.Obj.mk (PySem.Value.type "tuple") (Option.none ) (PySem.Data.seq #[(PySem.Value.str (Str.ofString "self") 249), (PySem.Value.str (Str.ofString "symbol") 250), (PySem.Value.str (Str.ofString "data") 251)] 0) #[])) ::
  (nat_lit 60, (PySem.Obj.mk (PySem.Value.type "tuple") (Option.none ) (PySem.Data.seq #[] 0) #[])) ::
  (nat_lit 61, (PySem.Obj.mk PySem.Value.none (Option.none ) (PySem.Data.func (PySem.FuncData.mk (Str.ofString "__init__") (Str.ofString "LispSignal.__init__") (mAt 9 0).2.1 (.stmts (mAt 9 0).2.2.1) (mAt 9 0).2.2.2 0 [] PySem.Value.none PySem.Value.none PySem.Value.none PySem.Value.none (Option.none ) PySem.Value.none PySem.Value.none 0)) #[])) ::
  (nat_lit 62, (PySem.Obj.mk (PySem.Value.type "code") (Option.none ) (PySem.Data.fields #[(PySem.Value.str (Str.ofString "__init__") 246), (PySem.Value.str (Str.ofString "LispSignal.__init__") 247), (PySem.Value.str (Str.ofString "/claim/cut.py") 248), (PySem.Value.int 23 0), (PySem.Value.int 3 0), (PySem.Value.int 0 0), (PySem.Value.int 0 0), (PySem.Value.int 3 0), (PySem.Value.ref 57), (PySem.Value.bool Bool.true), (PySem.Value.int 181 0), (PySem.Value.ref 58), PySem.Value.none, (PySem.Value.ref 59), (PySem.Value.ref 60), (PySem.Value.ref 61), (PySem.Value.int 252 0), (PySem.Value.int 23 0), (PySem.Value.str (Str.ofString "/claim/cut.py") 253)]) #[])) ::
  (nat_lit 63, (PySem.Obj.mk (PySem.Value.type "function") (Option.none ) (PySem.Data.func (PySem.FuncData.mk (Str.ofString "__init__") (Str.ofString "LispSignal.__init__") (mAt 9 0).2.1 (.stmts (mAt 9 0).2.2.1) (mAt 9 0).2.2.2 3 [] PySem.Value.none PySem.Value.none PySem.Value.none (PySem.Value.str (Str.ofString "emacs.errors") 232) (Option.none ) (PySem.Value.ref 62) PySem.Value.none 0)) #[])) ::
  (nat_lit 64, (PySem.Obj.mk (PySem.Value.type "tuple") (Option.none ) (PySem.Data.seq #[(PySem.Value.str (Str.ofString "data") 255), (PySem.Value.str (Str.ofString "symbol") 256)] 0) #[])) ::
  (nat_lit 65, (PySem.Obj.mk (PySem.Value.type "dict") (Option.none ) (PySem.Data.dict #[(PySem.DictEntry.mk (PySem.PyData.keyHash P (Str.ofString "__module__")) (PySem.Value.str (Str.ofString "__module__") 241) (PySem.Value.str (Str.ofString "emacs.errors") 232)), (PySem.DictEntry.mk (PySem.PyData.keyHash P (Str.ofString "__firstlineno__")) (PySem.Value.str (Str.ofString "__firstlineno__") 245) (PySem.Value.int 21 244)), (PySem.DictEntry.mk (PySem.PyData.keyHash P (Str.ofString "__init__")) (PySem.Value.str (Str.ofString "__init__") 254) (PySem.Value.ref 63)), (PySem.DictEntry.mk (PySem.PyData.keyHash P (Str.ofString "__static_attributes__")) (PySem.Value.str (Str.ofString "__static_attributes__") 257) (PySem.Value.ref 64)), (PySem.DictEntry.mk (PySem.PyData.keyHash P (Str.ofString "__weakref__")) (PySem.Value.str (Str.ofString "__weakref__") 259) (PySem.Value.ref 67)), (PySem.DictEntry.mk (PySem.PyData.keyHash P (Str.ofString "__doc__")) (PySem.Value.str (Str.ofString "__doc__") 260) PySem.Value.none)] 3) #[])) ::
  (nat_lit 66, (PySem.Obj.mk (PySem.Value.type "type") (Option.none ) (PySem.Data.cls (PySem.ClassData.mk (Str.ofString "LispSignal") [(PySem.Value.type "Exception")] [(PySem.Value.ref 66), (PySem.Value.type "Exception"), (PySem.Value.type "BaseException"), (PySem.Value.type "object")] 65 (Str.ofString "LispSignal") Bool.true [] [] Bool.false (Option.none ) Bool.false)) #[(Option.some (PySem.Value.ref 50)), (Option.none ), (Option.some (PySem.Value.str (Str.ofString "LispSignal") 234)), (Option.some (PySem.Value.str (Str.ofString "LispSignal") 242)), (Option.some (PySem.Value.builtin "Exception.__new__")), (Option.some (PySem.Value.bool Bool.true))])) ::
  (nat_lit 67, (PySem.Obj.mk (PySem.Value.type "getset_descriptor") (Option.none ) (PySem.Data.fields #[(PySem.Value.str (Str.ofString "__weakref__") 258), (PySem.Value.ref 66), (PySem.Value.builtin "ExceptionGroup.__weakref__"), PySem.Value.none]) #[])) ::
  (nat_lit 77, (PySem.Obj.mk (PySem.Value.type "tuple") (Option.none ) (PySem.Data.seq #[(PySem.Value.str (Str.ofString "") 279)] 0) #[])) ::
  (nat_lit 78, (PySem.Obj.mk (PySem.Value.type "tuple") (Option.none ) (PySem.Data.seq #[] 0) #[])) ::
  (nat_lit 79, (PySem.Obj.mk PySem.Value.none (Option.none ) (PySem.Data.fields #[]) #[])) ::
  (nat_lit 80, (PySem.Obj.mk (PySem.Value.type "tuple") (Option.none ) (PySem.Data.seq #[(PySem.Value.str (Str.ofString "self") 283), (PySem.Value.str (Str.ofString "prompt") 284)] 0) #[])) ::
  (nat_lit 81, (PySem.Obj.mk (PySem.Value.type "tuple") (Option.none ) (PySem.Data.seq #[] 0) #[])) ::
  (nat_lit 82, (PySem.Obj.mk PySem.Value.none (Option.none ) (PySem.Data.func (PySem.FuncData.mk (Str.ofString "__init__") (Str.ofString "Keymap.__init__") (mAt 11 0).2.1 (.stmts (mAt 11 0).2.2.1) (mAt 11 0).2.2.2 0 [] PySem.Value.none PySem.Value.none PySem.Value.none PySem.Value.none (Option.none ) PySem.Value.none PySem.Value.none 0)) #[])) ::
  (nat_lit 83, (PySem.Obj.mk (PySem.Value.type "code") (Option.none ) (PySem.Data.fields #[(PySem.Value.str (Str.ofString "__init__") 280), (PySem.Value.str (Str.ofString "Keymap.__init__") 281), (PySem.Value.str (Str.ofString "/claim/cut.py") 282), (PySem.Value.int 29 0), (PySem.Value.int 2 0), (PySem.Value.int 0 0), (PySem.Value.int 0 0), (PySem.Value.int 3 0), (PySem.Value.ref 78), (PySem.Value.bool Bool.true), (PySem.Value.int 181 0), (PySem.Value.ref 79), PySem.Value.none, (PySem.Value.ref 80), (PySem.Value.ref 81), (PySem.Value.ref 82), (PySem.Value.int 285 0), (PySem.Value.int 29 0), (PySem.Value.str (Str.ofString "/claim/cut.py") 286)]) #[])) ::
  (nat_lit 84, (PySem.Obj.mk (PySem.Value.type "function") (Option.none ) (PySem.Data.func (PySem.FuncData.mk (Str.ofString "__init__") (Str.ofString "Keymap.__init__") (mAt 11 0).2.1 (.stmts (mAt 11 0).2.2.1) (mAt 11 0).2.2.2 3 [] (PySem.Value.ref 77) PySem.Value.none PySem.Value.none (PySem.Value.str (Str.ofString "emacs.keymaps") 265) (Option.none ) (PySem.Value.ref 83) PySem.Value.none 0)) #[])) ::
  (nat_lit 85, (PySem.Obj.mk (PySem.Value.type "tuple") (Option.none ) (PySem.Data.seq #[] 0) #[])) ::
  (nat_lit 86, (PySem.Obj.mk PySem.Value.none (Option.none ) (PySem.Data.fields #[]) #[])) ::
  (nat_lit 87, (PySem.Obj.mk (PySem.Value.type "tuple") (Option.none ) (PySem.Data.seq #[(PySem.Value.str (Str.ofString "self") 291), (PySem.Value.str (Str.ofString "event") 292)] 0) #[])) ::
  (nat_lit 88, (PySem.Obj.mk (PySem.Value.type "tuple") (Option.none ) (PySem.Data.seq #[] 0) #[])) ::
  (nat_lit 89, (PySem.Obj.mk PySem.Value.none (Option.none ) (PySem.Data.func (PySem.FuncData.mk (Str.ofString "is_bound") (Str.ofString "Keymap.is_bound") (mAt 11 1).2.1 (.stmts (mAt 11 1).2.2.1) (mAt 11 1).2.2.2 0 [] PySem.Value.none PySem.Value.none PySem.Value.none PySem.Value.none (Option.none ) PySem.Value.none PySem.Value.none 0)) #[])) ::
  (nat_lit 90, (PySem.Obj.mk (PySem.Value.type "code") (Option.none ) (PySem.Data.fields #[(PySem.Value.str (Str.ofString "is_bound") 288), (PySem.Value.str (Str.ofString "Keymap.is_bound") 289), (PySem.Value.str (Str.ofString "/claim/cut.py") 290), (PySem.Value.int 36 0), (PySem.Value.int 2 0), (PySem.Value.int 0 0), (PySem.Value.int 0 0), (PySem.Value.int 3 0), (PySem.Value.ref 85), (PySem.Value.bool Bool.true), (PySem.Value.int 181 0), (PySem.Value.ref 86), PySem.Value.none, (PySem.Value.ref 87), (PySem.Value.ref 88), (PySem.Value.ref 89), (PySem.Value.int 293 0), (PySem.Value.int 36 0), (PySem.Value.str (Str.ofString "/claim/cut.py") 294)]) #[])) ::
  (nat_lit 91, (PySem.Obj.mk (PySem.Value.type "function") (Option.none ) (PySem.Data.func (PySem.FuncData.mk (Str.ofString "is_bound") (Str.ofString "Keymap.is_bound") (mAt 11 1).2.1 (.stmts (mAt 11 1).2.2.1) (mAt 11 1).2.2.2 3 [] PySem.Value.none PySem.Value.none PySem.Value.none (PySem.Value.str (Str.ofString "emacs.keymaps") 265) (Option.none ) (PySem.Value.ref 90) PySem.Value.none 0)) #[])) ::
  (nat_lit 92, (PySem.Obj.mk (PySem.Value.type "tuple") (Option.none ) (PySem.Data.seq #[] 0) #[])) ::
  (nat_lit 93, (PySem.Obj.mk PySem.Value.none (Option.none ) (PySem.Data.fields #[]) #[])) ::
  (nat_lit 94, (PySem.Obj.mk (PySem.Value.type "tuple") (Option.none ) (PySem.Data.seq #[(PySem.Value.str (Str.ofString "self") 299), (PySem.Value.str (Str.ofString "event") 300)] 0) #[])) ::
  (nat_lit 95, (PySem.Obj.mk (PySem.Value.type "tuple") (Option.none ) (PySem.Data.seq #[] 0) #[])) ::
  (nat_lit 96, (PySem.Obj.mk PySem.Value.none (Option.none ) (PySem.Data.func (PySem.FuncData.mk (Str.ofString "own") (Str.ofString "Keymap.own") (mAt 11 2).2.1 (.stmts (mAt 11 2).2.2.1) (mAt 11 2).2.2.2 0 [] PySem.Value.none PySem.Value.none PySem.Value.none PySem.Value.none (Option.none ) PySem.Value.none PySem.Value.none 0)) #[])) ::
  (nat_lit 97, (PySem.Obj.mk (PySem.Value.type "code") (Option.none ) (PySem.Data.fields #[(PySem.Value.str (Str.ofString "own") 296), (PySem.Value.str (Str.ofString "Keymap.own") 297), (PySem.Value.str (Str.ofString "/claim/cut.py") 298), (PySem.Value.int 39 0), (PySem.Value.int 2 0), (PySem.Value.int 0 0), (PySem.Value.int 0 0), (PySem.Value.int 3 0), (PySem.Value.ref 92), (PySem.Value.bool Bool.true), (PySem.Value.int 181 0), (PySem.Value.ref 93), PySem.Value.none, (PySem.Value.ref 94), (PySem.Value.ref 95), (PySem.Value.ref 96), (PySem.Value.int 301 0), (PySem.Value.int 39 0), (PySem.Value.str (Str.ofString "/claim/cut.py") 302)]) #[])) ::
  (nat_lit 98, (PySem.Obj.mk (PySem.Value.type "function") (Option.none ) (PySem.Data.func (PySem.FuncData.mk (Str.ofString "own") (Str.ofString "Keymap.own") (mAt 11 2).2.1 (.stmts (mAt 11 2).2.2.1) (mAt 11 2).2.2.2 3 [] PySem.Value.none PySem.Value.none PySem.Value.none (PySem.Value.str (Str.ofString "emacs.keymaps") 265) (Option.none ) (PySem.Value.ref 97) PySem.Value.none 0)) #[])) ::
  (nat_lit 99, (PySem.Obj.mk (PySem.Value.type "tuple") (Option.none ) (PySem.Data.seq #[] 0) #[])) ::
  (nat_lit 100, (PySem.Obj.mk PySem.Value.none (Option.none ) (PySem.Data.fields #[]) #[])) ::
  (nat_lit 101, (PySem.Obj.mk (PySem.Value.type "tuple") (Option.none ) (PySem.Data.seq #[(PySem.Value.str (Str.ofString "self") 307), (PySem.Value.str (Str.ofString "event") 308), (PySem.Value.str (Str.ofString "binding") 309)] 0) #[])) ::
  (nat_lit 102, (PySem.Obj.mk (PySem.Value.type "tuple") (Option.none ) (PySem.Data.seq #[] 0) #[])) ::
  (nat_lit 103, (PySem.Obj.mk PySem.Value.none (Option.none ) (PySem.Data.func (PySem.FuncData.mk (Str.ofString "put") (Str.ofString "Keymap.put") (mAt 11 3).2.1 (.stmts (mAt 11 3).2.2.1) (mAt 11 3).2.2.2 0 [] PySem.Value.none PySem.Value.none PySem.Value.none PySem.Value.none (Option.none ) PySem.Value.none PySem.Value.none 0)) #[])) ::
  (nat_lit 104, (PySem.Obj.mk (PySem.Value.type "code") (Option.none ) (PySem.Data.fields #[(PySem.Value.str (Str.ofString "put") 304), (PySem.Value.str (Str.ofString "Keymap.put") 305), (PySem.Value.str (Str.ofString "/claim/cut.py") 306), (PySem.Value.int 42 0), (PySem.Value.int 3 0), (PySem.Value.int 0 0), (PySem.Value.int 0 0), (PySem.Value.int 3 0), (PySem.Value.ref 99), (PySem.Value.bool Bool.true), (PySem.Value.int 181 0), (PySem.Value.ref 100), PySem.Value.none, (PySem.Value.ref 101), (PySem.Value.ref 102), (PySem.Value.ref 103), (PySem.Value.int 310 0), (PySem.Value.int 42 0), (PySem.Value.str (Str.ofString "/claim/cut.py") 311)]) #[])) ::
  (nat_lit 105, (PySem.Obj.mk (PySem.Value.type "function") (Option.none ) (PySem.Data.func (PySem.FuncData.mk (Str.ofString "put") (Str.ofString "Keymap.put") (mAt 11 3).2.1 (.stmts (mAt 11 3).2.2.1) (mAt 11 3).2.2.2 3 [] PySem.Value.none PySem.Value.none PySem.Value.none (PySem.Value.str (Str.ofString "emacs.keymaps") 265) (Option.none ) (PySem.Value.ref 104) PySem.Value.none 0)) #[])) ::
  (nat_lit 106, (PySem.Obj.mk (PySem.Value.type "tuple") (Option.none ) (PySem.Data.seq #[] 0) #[])) ::
  (nat_lit 107, (PySem.Obj.mk PySem.Value.none (Option.none ) (PySem.Data.fields #[]) #[])) ::
  (nat_lit 108, (PySem.Obj.mk (PySem.Value.type "tuple") (Option.none ) (PySem.Data.seq #[(PySem.Value.str (Str.ofString "self") 316), (PySem.Value.str (Str.ofString "event") 317)] 0) #[])) ::
  (nat_lit 109, (PySem.Obj.mk (PySem.Value.type "tuple") (Option.none ) (PySem.Data.seq #[] 0) #[])) ::
  (nat_lit 110, (PySem.Obj.mk PySem.Value.none (Option.none ) (PySem.Data.func (PySem.FuncData.mk (Str.ofString "drop") (Str.ofString "Keymap.drop") (mAt 11 4).2.1 (.stmts (mAt 11 4).2.2.1) (mAt 11 4).2.2.2 0 [] PySem.Value.none PySem.Value.none PySem.Value.none PySem.Value.none (Option.none ) PySem.Value.none PySem.Value.none 0)) #[])) ::
  (nat_lit 111, (PySem.Obj.mk (PySem.Value.type "code") (Option.none ) (PySem.Data.fields #[(PySem.Value.str (Str.ofString "drop") 313), (PySem.Value.str (Str.ofString "Keymap.drop") 314), (PySem.Value.str (Str.ofString "/claim/cut.py") 315), (PySem.Value.int 45 0), (PySem.Value.int 2 0), (PySem.Value.int 0 0), (PySem.Value.int 0 0), (PySem.Value.int 3 0), (PySem.Value.ref 106), (PySem.Value.bool Bool.true), (PySem.Value.int 181 0), (PySem.Value.ref 107), PySem.Value.none, (PySem.Value.ref 108), (PySem.Value.ref 109), (PySem.Value.ref 110), (PySem.Value.int 318 0), (PySem.Value.int 45 0), (PySem.Value.str (Str.ofString "/claim/cut.py") 319)]) #[])) ::
  (nat_lit 112, (PySem.Obj.mk (PySem.Value.type "function") (Option.none ) (PySem.Data.func (PySem.FuncData.mk (Str.ofString "drop") (Str.ofString "Keymap.drop") (mAt 11 4).2.1 (.stmts (mAt 11 4).2.2.1) (mAt 11 4).2.2.2 3 [] PySem.Value.none PySem.Value.none PySem.Value.none (PySem.Value.str (Str.ofString "emacs.keymaps") 265) (Option.none ) (PySem.Value.ref 111) PySem.Value.none 0)) #[])) ::
  (nat_lit 113, (PySem.Obj.mk (PySem.Value.type "tuple") (Option.none ) (PySem.Data.seq #[] 0) #[])) ::
  (nat_lit 114, (PySem.Obj.mk PySem.Value.none (Option.none ) (PySem.Data.fields #[]) #[])) ::
  (nat_lit 115, (PySem.Obj.mk (PySem.Value.type "tuple") (Option.none ) (PySem.Data.seq #[(PySem.Value.str (Str.ofString "self") 324), (PySem.Value.str (Str.ofString "binding") 325)] 0) #[])) ::
  (nat_lit 116, (PySem.Obj.mk (PySem.Value.type "tuple") (Option.none ) (PySem.Data.seq #[] 0) #[])) ::
  (nat_lit 117, (PySem.Obj.mk PySem.Value.none (Option.none ) (PySem.Data.func (PySem.FuncData.mk (Str.ofString "set_default") (Str.ofString "Keymap.set_default") (mAt 11 5).2.1 (.stmts (mAt 11 5).2.2.1) (mAt 11 5).2.2.2 0 [] PySem.Value.none PySem.Value.none PySem.Value.none PySem.Value.none (Option.none ) PySem.Value.none PySem.Value.none 0)) #[])) ::
  (nat_lit 118, (PySem.Obj.mk (PySem.Value.type "code") (Option.none ) (PySem.Data.fields #[(PySem.Value.str (Str.ofString "set_default") 321), (PySem.Value.str (Str.ofString "Keymap.set_default") 322), (PySem.Value.str (Str.ofString "/claim/cut.py") 323), (PySem.Value.int 48 0), (PySem.Value.int 2 0), (PySem.Value.int 0 0), (PySem.Value.int 0 0), (PySem.Value.int 3 0), (PySem.Value.ref 113), (PySem.Value.bool Bool.true), (PySem.Value.int 181 0), (PySem.Value.ref 114), PySem.Value.none, (PySem.Value.ref 115), (PySem.Value.ref 116), (PySem.Value.ref 117), (PySem.Value.int 326 0), (PySem.Value.int 48 0), (PySem.Value.str (Str.ofString "/claim/cut.py") 327)]) #[])) ::
  (nat_lit 119, (PySem.Obj.mk (PySem.Value.type "function") (Option.none ) (PySem.Data.func (PySem.FuncData.mk (Str.ofString "set_default") (Str.ofString "Keymap.set_default") (mAt 11 5).2.1 (.stmts (mAt 11 5).2.2.1) (mAt 11 5).2.2.2 3 [] PySem.Value.none PySem.Value.none PySem.Value.none (PySem.Value.str (Str.ofString "emacs.keymaps") 265) (Option.none ) (PySem.Value.ref 118) PySem.Value.none 0)) #[])) ::
  (nat_lit 120, (PySem.Obj.mk (PySem.Value.type "tuple") (Option.none ) (PySem.Data.seq #[(PySem.Value.str (Str.ofString "default") 329), (PySem.Value.str (Str.ofString "has_default") 330), (PySem.Value.str (Str.ofString "parent") 331), (PySem.Value.str (Str.ofString "prompt") 332), (PySem.Value.str (Str.ofString "rows") 333)] 0) #[])) ::
  (nat_lit 121, (PySem.Obj.mk (PySem.Value.type "dict") (Option.none ) (PySem.Data.dict #[(PySem.DictEntry.mk (PySem.PyData.keyHash P (Str.ofString "__module__")) (PySem.Value.str (Str.ofString "__module__") 274) (PySem.Value.str (Str.ofString "emacs.keymaps") 265)), (PySem.DictEntry.mk (PySem.PyData.keyHash P (Str.ofString "__firstlineno__")) (PySem.Value.str (Str.ofString "__firstlineno__") 278) (PySem.Value.int 27 277)), (PySem.DictEntry.mk (PySem.PyData.keyHash P (Str.ofString "__init__")) (PySem.Value.str (Str.ofString "__init__") 287) (PySem.Value.ref 84)), (PySem.DictEntry.mk (PySem.PyData.keyHash P (Str.ofString "is_bound")) (PySem.Value.str (Str.ofString "is_bound") 295) (PySem.Value.ref 91)), (PySem.DictEntry.mk (PySem.PyData.keyHash P (Str.ofString "own")) (PySem.Value.str (Str.ofString "own") 303) (PySem.Value.ref 98)), (PySem.DictEntry.mk (PySem.PyData.keyHash P (Str.ofString "put")) (PySem.Value.str (Str.ofString "put") 312) (PySem.Value.ref 105)), (PySem.DictEntry.mk (PySem.PyData.keyHash P (Str.ofString "drop")) (PySem.Value.str (Str.ofString "drop") 320) (PySem.Value.ref 112)), (PySem.DictEntry.mk (PySem.PyData.keyHash P (Str.ofString "set_default")) (PySem.Value.str (Str.ofString "set_default") 328) (PySem.Value.ref 119)), (PySem.DictEntry.mk (PySem.PyData.keyHash P (Str.ofString "__static_attributes__")) (PySem.Value.str (Str.ofString "__static_attributes__") 334) (PySem.Value.ref 120)), (PySem.DictEntry.mk (PySem.PyData.keyHash P (Str.ofString "__dict__")) (PySem.Value.str (Str.ofString "__dict__") 336) (PySem.Value.ref 123)), (PySem.DictEntry.mk (PySem.PyData.keyHash P (Str.ofString "__weakref__")) (PySem.Value.str (Str.ofString "__weakref__") 338) (PySem.Value.ref 124)), (PySem.DictEntry.mk (PySem.PyData.keyHash P (Str.ofString "__doc__")) (PySem.Value.str (Str.ofString "__doc__") 339) PySem.Value.none)] 4) #[])) ::
  (nat_lit 122, (PySem.Obj.mk (PySem.Value.type "type") (Option.none ) (PySem.Data.cls (PySem.ClassData.mk (Str.ofString "Keymap") [(PySem.Value.type "object")] [(PySem.Value.ref 122), (PySem.Value.type "object")] 121 (Str.ofString "Keymap") Bool.true [] [] Bool.false (Option.none ) Bool.false)) #[(Option.none ), (Option.none ), (Option.some (PySem.Value.str (Str.ofString "Keymap") 267)), (Option.some (PySem.Value.str (Str.ofString "Keymap") 275)), (Option.some (PySem.Value.builtin "object.__new__")), (Option.some (PySem.Value.bool Bool.true))])) ::
  (nat_lit 123, (PySem.Obj.mk (PySem.Value.type "getset_descriptor") (Option.none ) (PySem.Data.fields #[(PySem.Value.str (Str.ofString "__dict__") 335), (PySem.Value.ref 122), (PySem.Value.builtin "function.__dict__"), (PySem.Value.builtin "function.__dict__#set")]) #[])) ::
  (nat_lit 124, (PySem.Obj.mk (PySem.Value.type "getset_descriptor") (Option.none ) (PySem.Data.fields #[(PySem.Value.str (Str.ofString "__weakref__") 337), (PySem.Value.ref 122), (PySem.Value.builtin "ExceptionGroup.__weakref__"), PySem.Value.none]) #[])) ::
  (nat_lit 127, (PySem.Obj.mk (PySem.Value.type "tuple") (Option.none ) (PySem.Data.seq #[] 0) #[])) ::
  (nat_lit 128, (PySem.Obj.mk PySem.Value.none (Option.none ) (PySem.Data.fields #[]) #[])) ::
  (nat_lit 129, (PySem.Obj.mk (PySem.Value.type "tuple") (Option.none ) (PySem.Data.seq #[(PySem.Value.str (Str.ofString "binding") 345)] 0) #[])) ::
  (nat_lit 130, (PySem.Obj.mk (PySem.Value.type "tuple") (Option.none ) (PySem.Data.seq #[] 0) #[])) ::
  (nat_lit 131, (PySem.Obj.mk PySem.Value.none (Option.none ) (PySem.Data.func (PySem.FuncData.mk (Str.ofString "is_keymap") (Str.ofString "is_keymap") (dAt 12).2.1 (.stmts (dAt 12).2.2.1) (dAt 12).2.2.2 0 [] PySem.Value.none PySem.Value.none PySem.Value.none PySem.Value.none (Option.none ) PySem.Value.none PySem.Value.none 0)) #[])) ::
  (nat_lit 132, (PySem.Obj.mk (PySem.Value.type "code") (Option.none ) (PySem.Data.fields #[(PySem.Value.str (Str.ofString "is_keymap") 342), (PySem.Value.str (Str.ofString "is_keymap") 343), (PySem.Value.str (Str.ofString "/claim/cut.py") 344), (PySem.Value.int 51 0), (PySem.Value.int 1 0), (PySem.Value.int 0 0), (PySem.Value.int 0 0), (PySem.Value.int 3 0), (PySem.Value.ref 127), (PySem.Value.bool Bool.true), (PySem.Value.int 181 0), (PySem.Value.ref 128), PySem.Value.none, (PySem.Value.ref 129), (PySem.Value.ref 130), (PySem.Value.ref 131), (PySem.Value.int 346 0), (PySem.Value.int 51 0), (PySem.Value.str (Str.ofString "/claim/cut.py") 347)]) #[])) ::
  (nat_lit 133, (PySem.Obj.mk (PySem.Value.type "function") (Option.none ) (PySem.Data.func (PySem.FuncData.mk (Str.ofString "is_keymap") (Str.ofString "is_keymap") (dAt 12).2.1 (.stmts (dAt 12).2.2.1) (dAt 12).2.2.2 3 [] PySem.Value.none PySem.Value.none PySem.Value.none (PySem.Value.str (Str.ofString "emacs.keymaps") 265) (Option.none ) (PySem.Value.ref 132) PySem.Value.none 0)) #[])) ::
  (nat_lit 134, (PySem.Obj.mk (PySem.Value.type "tuple") (Option.none ) (PySem.Data.seq #[] 0) #[])) ::
  (nat_lit 135, (PySem.Obj.mk PySem.Value.none (Option.none ) (PySem.Data.fields #[]) #[])) ::
  (nat_lit 136, (PySem.Obj.mk (PySem.Value.type "tuple") (Option.none ) (PySem.Data.seq #[(PySem.Value.str (Str.ofString "keymap") 352), (PySem.Value.str (Str.ofString "found") 353)] 0) #[])) ::
  (nat_lit 137, (PySem.Obj.mk (PySem.Value.type "tuple") (Option.none ) (PySem.Data.seq #[] 0) #[])) ::
  (nat_lit 138, (PySem.Obj.mk PySem.Value.none (Option.none ) (PySem.Data.func (PySem.FuncData.mk (Str.ofString "chain_of") (Str.ofString "chain_of") (dAt 13).2.1 (.stmts (dAt 13).2.2.1) (dAt 13).2.2.2 0 [] PySem.Value.none PySem.Value.none PySem.Value.none PySem.Value.none (Option.none ) PySem.Value.none PySem.Value.none 0)) #[])) ::
  (nat_lit 139, (PySem.Obj.mk (PySem.Value.type "code") (Option.none ) (PySem.Data.fields #[(PySem.Value.str (Str.ofString "chain_of") 349), (PySem.Value.str (Str.ofString "chain_of") 350), (PySem.Value.str (Str.ofString "/claim/cut.py") 351), (PySem.Value.int 53 0), (PySem.Value.int 1 0), (PySem.Value.int 0 0), (PySem.Value.int 0 0), (PySem.Value.int 3 0), (PySem.Value.ref 134), (PySem.Value.bool Bool.true), (PySem.Value.int 181 0), (PySem.Value.ref 135), PySem.Value.none, (PySem.Value.ref 136), (PySem.Value.ref 137), (PySem.Value.ref 138), (PySem.Value.int 354 0), (PySem.Value.int 53 0), (PySem.Value.str (Str.ofString "/claim/cut.py") 355)]) #[])) ::
  (nat_lit 140, (PySem.Obj.mk (PySem.Value.type "function") (Option.none ) (PySem.Data.func (PySem.FuncData.mk (Str.ofString "chain_of") (Str.ofString "chain_of") (dAt 13).2.1 (.stmts (dAt 13).2.2.1) (dAt 13).2.2.2 3 [] PySem.Value.none PySem.Value.none PySem.Value.none (PySem.Value.str (Str.ofString "emacs.keymaps") 265) (Option.none ) (PySem.Value.ref 139) PySem.Value.none 0)) #[])) ::
  (nat_lit 141, (PySem.Obj.mk (PySem.Value.type "tuple") (Option.none ) (PySem.Data.seq #[] 0) #[])) ::
  (nat_lit 142, (PySem.Obj.mk PySem.Value.none (Option.none ) (PySem.Data.fields #[]) #[])) ::
  (nat_lit 143, (PySem.Obj.mk PySem.Value.none (Option.none ) (PySem.Data.func (PySem.FuncData.mk (Str.ofString "set_parent") (Str.ofString "set_parent") (dAt 14).2.1 (.stmts (dAt 14).2.2.1) (dAt 14).2.2.2 0 [] PySem.Value.none PySem.Value.none PySem.Value.none PySem.Value.none (Option.none ) PySem.Value.none PySem.Value.none 0)) #[])) ::
  (nat_lit 144, (PySem.Obj.mk (PySem.Value.type "code") (Option.none ) (PySem.Data.fields #[(PySem.Value.str (Str.ofString "set_parent") 357), (PySem.Value.str (Str.ofString "set_parent") 358), (PySem.Value.str (Str.ofString "/claim/cut.py") 359), (PySem.Value.int 59 0), (PySem.Value.int 2 0), (PySem.Value.int 0 0), (PySem.Value.int 0 0), (PySem.Value.int 3 0), (PySem.Value.ref 141), (PySem.Value.bool Bool.true), (PySem.Value.int 181 0), (PySem.Value.ref 142), PySem.Value.none, PySem.Value.none, PySem.Value.none, (PySem.Value.ref 143), (PySem.Value.int 360 0), (PySem.Value.int 59 0), (PySem.Value.str (Str.ofString "/claim/cut.py") 361)]) #[])) ::
  (nat_lit 145, (PySem.Obj.mk (PySem.Value.type "function") (Option.none ) (PySem.Data.func (PySem.FuncData.mk (Str.ofString "set_parent") (Str.ofString "set_parent") (dAt 14).2.1 (.stmts (dAt 14).2.2.1) (dAt 14).2.2.2 3 [] PySem.Value.none PySem.Value.none PySem.Value.none (PySem.Value.str (Str.ofString "emacs.keymaps") 265) (Option.none ) (PySem.Value.ref 144) PySem.Value.none 0)) #[])) ::
  (nat_lit 146, (PySem.Obj.mk (PySem.Value.type "tuple") (Option.none ) (PySem.Data.seq #[] 0) #[])) ::
  (nat_lit 147, (PySem.Obj.mk PySem.Value.none (Option.none ) (PySem.Data.fields #[]) #[])) ::
  (nat_lit 148, (PySem.Obj.mk PySem.Value.none (Option.none ) (PySem.Data.func (PySem.FuncData.mk (Str.ofString "rows_along") (Str.ofString "rows_along") (dAt 20).2.1 (.stmts (dAt 20).2.2.1) (dAt 20).2.2.2 0 [] PySem.Value.none PySem.Value.none PySem.Value.none PySem.Value.none (Option.none ) PySem.Value.none PySem.Value.none 0)) #[])) ::
  (nat_lit 149, (PySem.Obj.mk (PySem.Value.type "code") (Option.none ) (PySem.Data.fields #[(PySem.Value.str (Str.ofString "rows_along") 373), (PySem.Value.str (Str.ofString "rows_along") 374), (PySem.Value.str (Str.ofString "/claim/cut.py") 375), (PySem.Value.int 68 0), (PySem.Value.int 2 0), (PySem.Value.int 0 0), (PySem.Value.int 0 0), (PySem.Value.int 3 0), (PySem.Value.ref 146), (PySem.Value.bool Bool.true), (PySem.Value.int 181 0), (PySem.Value.ref 147), PySem.Value.none, PySem.Value.none, PySem.Value.none, (PySem.Value.ref 148), (PySem.Value.int 376 0), (PySem.Value.int 68 0), (PySem.Value.str (Str.ofString "/claim/cut.py") 377)]) #[])) ::
  (nat_lit 150, (PySem.Obj.mk (PySem.Value.type "function") (Option.none ) (PySem.Data.func (PySem.FuncData.mk (Str.ofString "rows_along") (Str.ofString "rows_along") (dAt 20).2.1 (.stmts (dAt 20).2.2.1) (dAt 20).2.2.2 3 [] PySem.Value.none PySem.Value.none PySem.Value.none (PySem.Value.str (Str.ofString "emacs.lookup") 363) (Option.none ) (PySem.Value.ref 149) PySem.Value.none 0)) #[])) ::
  (nat_lit 151, (PySem.Obj.mk (PySem.Value.type "tuple") (Option.none ) (PySem.Data.seq #[] 0) #[])) ::
  (nat_lit 152, (PySem.Obj.mk PySem.Value.none (Option.none ) (PySem.Data.fields #[]) #[])) ::
  (nat_lit 153, (PySem.Obj.mk PySem.Value.none (Option.none ) (PySem.Data.func (PySem.FuncData.mk (Str.ofString "defaults_along") (Str.ofString "defaults_along") (dAt 21).2.1 (.stmts (dAt 21).2.2.1) (dAt 21).2.2.2 0 [] PySem.Value.none PySem.Value.none PySem.Value.none PySem.Value.none (Option.none ) PySem.Value.none PySem.Value.none 0)) #[])) ::
  (nat_lit 154, (PySem.Obj.mk (PySem.Value.type "code") (Option.none ) (PySem.Data.fields #[(PySem.Value.str (Str.ofString "defaults_along") 379), (PySem.Value.str (Str.ofString "defaults_along") 380), (PySem.Value.str (Str.ofString "/claim/cut.py") 381), (PySem.Value.int 70 0), (PySem.Value.int 1 0), (PySem.Value.int 0 0), (PySem.Value.int 0 0), (PySem.Value.int 3 0), (PySem.Value.ref 151), (PySem.Value.bool Bool.true), (PySem.Value.int 181 0), (PySem.Value.ref 152), PySem.Value.none, PySem.Value.none, PySem.Value.none, (PySem.Value.ref 153), (PySem.Value.int 382 0), (PySem.Value.int 70 0), (PySem.Value.str (Str.ofString "/claim/cut.py") 383)]) #[])) ::
  (nat_lit 155, (PySem.Obj.mk (PySem.Value.type "function") (Option.none ) (PySem.Data.func (PySem.FuncData.mk (Str.ofString "defaults_along") (Str.ofString "defaults_along") (dAt 21).2.1 (.stmts (dAt 21).2.2.1) (dAt 21).2.2.2 3 [] PySem.Value.none PySem.Value.none PySem.Value.none (PySem.Value.str (Str.ofString "emacs.lookup") 363) (Option.none ) (PySem.Value.ref 154) PySem.Value.none 0)) #[])) ::
  (nat_lit 156, (PySem.Obj.mk (PySem.Value.type "tuple") (Option.none ) (PySem.Data.seq #[] 0) #[])) ::
  (nat_lit 157, (PySem.Obj.mk PySem.Value.none (Option.none ) (PySem.Data.fields #[]) #[])) ::
  (nat_lit 158, (PySem.Obj.mk (PySem.Value.type "tuple") (Option.none ) (PySem.Data.seq #[(PySem.Value.str (Str.ofString "keymap") 388), (PySem.Value.str (Str.ofString "event") 389), (PySem.Value.str (Str.ofString "takes_default") 390), (PySem.Value.str (Str.ofString "found") 391)] 0) #[])) ::
  (nat_lit 159, (PySem.Obj.mk (PySem.Value.type "tuple") (Option.none ) (PySem.Data.seq #[] 0) #[])) ::
  (nat_lit 160, (PySem.Obj.mk PySem.Value.none (Option.none ) (PySem.Data.func (PySem.FuncData.mk (Str.ofString "bindings_in") (Str.ofString "bindings_in") (dAt 22).2.1 (.stmts (dAt 22).2.2.1) (dAt 22).2.2.2 0 [] PySem.Value.none PySem.Value.none PySem.Value.none PySem.Value.none (Option.none ) PySem.Value.none PySem.Value.none 0)) #[])) ::
  (nat_lit 161, (PySem.Obj.mk (PySem.Value.type "code") (Option.none ) (PySem.Data.fields #[(PySem.Value.str (Str.ofString "bindings_in") 385), (PySem.Value.str (Str.ofString "bindings_in") 386), (PySem.Value.str (Str.ofString "/claim/cut.py") 387), (PySem.Value.int 72 0), (PySem.Value.int 3 0), (PySem.Value.int 0 0), (PySem.Value.int 0 0), (PySem.Value.int 3 0), (PySem.Value.ref 156), (PySem.Value.bool Bool.true), (PySem.Value.int 181 0), (PySem.Value.ref 157), PySem.Value.none, (PySem.Value.ref 158), (PySem.Value.ref 159), (PySem.Value.ref 160), (PySem.Value.int 392 0), (PySem.Value.int 72 0), (PySem.Value.str (Str.ofString "/claim/cut.py") 393)]) #[])) ::
  (nat_lit 162, (PySem.Obj.mk (PySem.Value.type "function") (Option.none ) (PySem.Data.func (PySem.FuncData.mk (Str.ofString "bindings_in") (Str.ofString "bindings_in") (dAt 22).2.1 (.stmts (dAt 22).2.2.1) (dAt 22).2.2.2 3 [] PySem.Value.none PySem.Value.none PySem.Value.none (PySem.Value.str (Str.ofString "emacs.lookup") 363) (Option.none ) (PySem.Value.ref 161) PySem.Value.none 0)) #[])) ::
  (nat_lit 163, (PySem.Obj.mk (PySem.Value.type "tuple") (Option.none ) (PySem.Data.seq #[] 0) #[])) ::
  (nat_lit 164, (PySem.Obj.mk PySem.Value.none (Option.none ) (PySem.Data.fields #[]) #[])) ::
  (nat_lit 165, (PySem.Obj.mk (PySem.Value.type "tuple") (Option.none ) (PySem.Data.seq #[(PySem.Value.str (Str.ofString "bindings") 398), (PySem.Value.str (Str.ofString "maps") 399), (PySem.Value.str (Str.ofString "binding") 400)] 0) #[])) ::
  (nat_lit 166, (PySem.Obj.mk (PySem.Value.type "tuple") (Option.none ) (PySem.Data.seq #[] 0) #[])) ::
  (nat_lit 167, (PySem.Obj.mk PySem.Value.none (Option.none ) (PySem.Data.func (PySem.FuncData.mk (Str.ofString "joined") (Str.ofString "joined") (dAt 23).2.1 (.stmts (dAt 23).2.2.1) (dAt 23).2.2.2 0 [] PySem.Value.none PySem.Value.none PySem.Value.none PySem.Value.none (Option.none ) PySem.Value.none PySem.Value.none 0)) #[])) ::
  (nat_lit 168, (PySem.Obj.mk (PySem.Value.type "code") (Option.none ) (PySem.Data.fields #[(PySem.Value.str (Str.ofString "joined") 395), (PySem.Value.str (Str.ofString "joined") 396), (PySem.Value.str (Str.ofString "/claim/cut.py") 397), (PySem.Value.int 77 0), (PySem.Value.int 1 0), (PySem.Value.int 0 0), (PySem.Value.int 0 0), (PySem.Value.int 3 0), (PySem.Value.ref 163), (PySem.Value.bool Bool.true), (PySem.Value.int 181 0), (PySem.Value.ref 164), PySem.Value.none, (PySem.Value.ref 165), (PySem.Value.ref 166), (PySem.Value.ref 167), (PySem.Value.int 401 0), (PySem.Value.int 77 0), (PySem.Value.str (Str.ofString "/claim/cut.py") 402)]) #[])) ::
  (nat_lit 169, (PySem.Obj.mk (PySem.Value.type "function") (Option.none ) (PySem.Data.func (PySem.FuncData.mk (Str.ofString "joined") (Str.ofString "joined") (dAt 23).2.1 (.stmts (dAt 23).2.2.1) (dAt 23).2.2.2 3 [] PySem.Value.none PySem.Value.none PySem.Value.none (PySem.Value.str (Str.ofString "emacs.lookup") 363) (Option.none ) (PySem.Value.ref 168) PySem.Value.none 0)) #[])) ::
  (nat_lit 170, (PySem.Obj.mk (PySem.Value.type "tuple") (Option.none ) (PySem.Data.seq #[] 0) #[])) ::
  (nat_lit 171, (PySem.Obj.mk PySem.Value.none (Option.none ) (PySem.Data.fields #[]) #[])) ::
  (nat_lit 172, (PySem.Obj.mk (PySem.Value.type "tuple") (Option.none ) (PySem.Data.seq #[(PySem.Value.str (Str.ofString "keymap") 407), (PySem.Value.str (Str.ofString "event") 408), (PySem.Value.str (Str.ofString "takes_default") 409), (PySem.Value.str (Str.ofString "bindings") 410)] 0) #[])) ::
  (nat_lit 173, (PySem.Obj.mk (PySem.Value.type "tuple") (Option.none ) (PySem.Data.seq #[] 0) #[])) ::
  (nat_lit 174, (PySem.Obj.mk PySem.Value.none (Option.none ) (PySem.Data.func (PySem.FuncData.mk (Str.ofString "first_in") (Str.ofString "first_in") (dAt 24).2.1 (.stmts (dAt 24).2.2.1) (dAt 24).2.2.2 0 [] PySem.Value.none PySem.Value.none PySem.Value.none PySem.Value.none (Option.none ) PySem.Value.none PySem.Value.none 0)) #[])) ::
  (nat_lit 175, (PySem.Obj.mk (PySem.Value.type "code") (Option.none ) (PySem.Data.fields #[(PySem.Value.str (Str.ofString "first_in") 404), (PySem.Value.str (Str.ofString "first_in") 405), (PySem.Value.str (Str.ofString "/claim/cut.py") 406), (PySem.Value.int 85 0), (PySem.Value.int 3 0), (PySem.Value.int 0 0), (PySem.Value.int 0 0), (PySem.Value.int 3 0), (PySem.Value.ref 170), (PySem.Value.bool Bool.true), (PySem.Value.int 181 0), (PySem.Value.ref 171), PySem.Value.none, (PySem.Value.ref 172), (PySem.Value.ref 173), (PySem.Value.ref 174), (PySem.Value.int 411 0), (PySem.Value.int 85 0), (PySem.Value.str (Str.ofString "/claim/cut.py") 412)]) #[])) ::
  (nat_lit 176, (PySem.Obj.mk (PySem.Value.type "function") (Option.none ) (PySem.Data.func (PySem.FuncData.mk (Str.ofString "first_in") (Str.ofString "first_in") (dAt 24).2.1 (.stmts (dAt 24).2.2.1) (dAt 24).2.2.2 3 [] PySem.Value.none PySem.Value.none PySem.Value.none (PySem.Value.str (Str.ofString "emacs.lookup") 363) (Option.none ) (PySem.Value.ref 175) PySem.Value.none 0)) #[])) ::
  (nat_lit 177, (PySem.Obj.mk (PySem.Value.type "tuple") (Option.none ) (PySem.Data.seq #[] 0) #[])) ::
  (nat_lit 178, (PySem.Obj.mk PySem.Value.none (Option.none ) (PySem.Data.fields #[]) #[])) ::
  (nat_lit 179, (PySem.Obj.mk (PySem.Value.type "tuple") (Option.none ) (PySem.Data.seq #[(PySem.Value.str (Str.ofString "maps") 417), (PySem.Value.str (Str.ofString "event") 418), (PySem.Value.str (Str.ofString "takes_default") 419), (PySem.Value.str (Str.ofString "found") 420), (PySem.Value.str (Str.ofString "keymap") 421), (PySem.Value.str (Str.ofString "told") 422)] 0) #[])) ::
  (nat_lit 180, (PySem.Obj.mk (PySem.Value.type "tuple") (Option.none ) (PySem.Data.seq #[] 0) #[])) ::
  (nat_lit 181, (PySem.Obj.mk PySem.Value.none (Option.none ) (PySem.Data.func (PySem.FuncData.mk (Str.ofString "found_in") (Str.ofString "found_in") (dAt 25).2.1 (.stmts (dAt 25).2.2.1) (dAt 25).2.2.2 0 [] PySem.Value.none PySem.Value.none PySem.Value.none PySem.Value.none (Option.none ) PySem.Value.none PySem.Value.none 0)) #[])) ::
  (nat_lit 182, (PySem.Obj.mk (PySem.Value.type "code") (Option.none ) (PySem.Data.fields #[(PySem.Value.str (Str.ofString "found_in") 414), (PySem.Value.str (Str.ofString "found_in") 415), (PySem.Value.str (Str.ofString "/claim/cut.py") 416), (PySem.Value.int 90 0), (PySem.Value.int 3 0), (PySem.Value.int 0 0), (PySem.Value.int 0 0), (PySem.Value.int 3 0), (PySem.Value.ref 177), (PySem.Value.bool Bool.true), (PySem.Value.int 181 0), (PySem.Value.ref 178), PySem.Value.none, (PySem.Value.ref 179), (PySem.Value.ref 180), (PySem.Value.ref 181), (PySem.Value.int 423 0), (PySem.Value.int 90 0), (PySem.Value.str (Str.ofString "/claim/cut.py") 424)]) #[])) ::
  (nat_lit 183, (PySem.Obj.mk (PySem.Value.type "function") (Option.none ) (PySem.Data.func (PySem.FuncData.mk (Str.ofString "found_in") (Str.ofString "found_in") (dAt 25).2.1 (.stmts (dAt 25).2.2.1) (dAt 25).2.2.2 3 [] PySem.Value.none PySem.Value.none PySem.Value.none (PySem.Value.str (Str.ofString "emacs.lookup") 363) (Option.none ) (PySem.Value.ref 182) PySem.Value.none 0)) #[])) ::
  (nat_lit 184, (PySem.Obj.mk (PySem.Value.type "tuple") (Option.none ) (PySem.Data.seq #[(PySem.Value.bool Bool.false)] 0) #[])) ::
  (nat_lit 185, (PySem.Obj.mk (PySem.Value.type "tuple") (Option.none ) (PySem.Data.seq #[] 0) #[])) ::
  (nat_lit 186, (PySem.Obj.mk PySem.Value.none (Option.none ) (PySem.Data.fields #[]) #[])) ::
  (nat_lit 187, (PySem.Obj.mk (PySem.Value.type "tuple") (Option.none ) (PySem.Data.seq #[(PySem.Value.str (Str.ofString "maps") 429), (PySem.Value.str (Str.ofString "keys") 430), (PySem.Value.str (Str.ofString "takes_default") 431), (PySem.Value.str (Str.ofString "spread") 432), (PySem.Value.str (Str.ofString "here") 433), (PySem.Value.str (Str.ofString "at") 434), (PySem.Value.str (Str.ofString "event") 435), (PySem.Value.str (Str.ofString "told") 436)] 0) #[])) ::
  (nat_lit 188, (PySem.Obj.mk (PySem.Value.type "tuple") (Option.none ) (PySem.Data.seq #[] 0) #[])) ::
  (nat_lit 189, (PySem.Obj.mk PySem.Value.none (Option.none ) (PySem.Data.func (PySem.FuncData.mk (Str.ofString "lookup_keys") (Str.ofString "lookup_keys") (dAt 26).2.1 (.stmts (dAt 26).2.2.1) (dAt 26).2.2.2 0 [] PySem.Value.none PySem.Value.none PySem.Value.none PySem.Value.none (Option.none ) PySem.Value.none PySem.Value.none 0)) #[])) ::
  (nat_lit 190, (PySem.Obj.mk (PySem.Value.type "code") (Option.none ) (PySem.Data.fields #[(PySem.Value.str (Str.ofString "lookup_keys") 426), (PySem.Value.str (Str.ofString "lookup_keys") 427), (PySem.Value.str (Str.ofString "/claim/cut.py") 428), (PySem.Value.int 99 0), (PySem.Value.int 3 0), (PySem.Value.int 0 0), (PySem.Value.int 0 0), (PySem.Value.int 3 0), (PySem.Value.ref 185), (PySem.Value.bool Bool.true), (PySem.Value.int 181 0), (PySem.Value.ref 186), PySem.Value.none, (PySem.Value.ref 187), (PySem.Value.ref 188), (PySem.Value.ref 189), (PySem.Value.int 437 0), (PySem.Value.int 99 0), (PySem.Value.str (Str.ofString "/claim/cut.py") 438)]) #[])) ::
  (nat_lit 191, (PySem.Obj.mk (PySem.Value.type "function") (Option.none ) (PySem.Data.func (PySem.FuncData.mk (Str.ofString "lookup_keys") (Str.ofString "lookup_keys") (dAt 26).2.1 (.stmts (dAt 26).2.2.1) (dAt 26).2.2.2 3 [] (PySem.Value.ref 184) PySem.Value.none PySem.Value.none (PySem.Value.str (Str.ofString "emacs.lookup") 363) (Option.none ) (PySem.Value.ref 190) PySem.Value.none 0)) #[])) ::
  (nat_lit 192, (PySem.Obj.mk (PySem.Value.type "tuple") (Option.none ) (PySem.Data.seq #[] 0) #[])) ::
  (nat_lit 193, (PySem.Obj.mk PySem.Value.none (Option.none ) (PySem.Data.fields #[]) #[])) ::
  (nat_lit 194, (PySem.Obj.mk (PySem.Value.type "tuple") (Option.none ) (PySem.Data.seq #[(PySem.Value.str (Str.ofString "maps") 443), (PySem.Value.str (Str.ofString "command") 444), (PySem.Value.str (Str.ofString "word") 445), (PySem.Value.str (Str.ofString "binding") 446)] 0) #[])) ::
  (nat_lit 195, (PySem.Obj.mk (PySem.Value.type "tuple") (Option.none ) (PySem.Data.seq #[] 0) #[])) ::
  (nat_lit 196, (PySem.Obj.mk PySem.Value.none (Option.none ) (PySem.Data.func (PySem.FuncData.mk (Str.ofString "remapped") (Str.ofString "remapped") (dAt 27).2.1 (.stmts (dAt 27).2.2.1) (dAt 27).2.2.2 0 [] PySem.Value.none PySem.Value.none PySem.Value.none PySem.Value.none (Option.none ) PySem.Value.none PySem.Value.none 0)) #[])) ::
  (nat_lit 197, (PySem.Obj.mk (PySem.Value.type "code") (Option.none ) (PySem.Data.fields #[(PySem.Value.str (Str.ofString "remapped") 440), (PySem.Value.str (Str.ofString "remapped") 441), (PySem.Value.str (Str.ofString "/claim/cut.py") 442), (PySem.Value.int 110 0), (PySem.Value.int 2 0), (PySem.Value.int 0 0), (PySem.Value.int 0 0), (PySem.Value.int 3 0), (PySem.Value.ref 192), (PySem.Value.bool Bool.true), (PySem.Value.int 181 0), (PySem.Value.ref 193), PySem.Value.none, (PySem.Value.ref 194), (PySem.Value.ref 195), (PySem.Value.ref 196), (PySem.Value.int 447 0), (PySem.Value.int 110 0), (PySem.Value.str (Str.ofString "/claim/cut.py") 448)]) #[])) ::
  (nat_lit 198, (PySem.Obj.mk (PySem.Value.type "function") (Option.none ) (PySem.Data.func (PySem.FuncData.mk (Str.ofString "remapped") (Str.ofString "remapped") (dAt 27).2.1 (.stmts (dAt 27).2.2.1) (dAt 27).2.2.2 3 [] PySem.Value.none PySem.Value.none PySem.Value.none (PySem.Value.str (Str.ofString "emacs.lookup") 363) (Option.none ) (PySem.Value.ref 197) PySem.Value.none 0)) #[])) ::
  (nat_lit 199, (PySem.Obj.mk (PySem.Value.type "tuple") (Option.none ) (PySem.Data.seq #[] 0) #[])) ::
  (nat_lit 200, (PySem.Obj.mk PySem.Value.none (Option.none ) (PySem.Data.fields #[]) #[])) ::
  (nat_lit 201, (PySem.Obj.mk PySem.Value.none (Option.none ) (PySem.Data.func (PySem.FuncData.mk (Str.ofString "minor_maps") (Str.ofString "minor_maps") (dAt 29).2.1 (.stmts (dAt 29).2.2.1) (dAt 29).2.2.2 0 [] PySem.Value.none PySem.Value.none PySem.Value.none PySem.Value.none (Option.none ) PySem.Value.none PySem.Value.none 0)) #[])) ::
  (nat_lit 202, (PySem.Obj.mk (PySem.Value.type "code") (Option.none ) (PySem.Data.fields #[(PySem.Value.str (Str.ofString "minor_maps") 452), (PySem.Value.str (Str.ofString "minor_maps") 453), (PySem.Value.str (Str.ofString "/claim/cut.py") 454), (PySem.Value.int 114 0), (PySem.Value.int 2 0), (PySem.Value.int 0 0), (PySem.Value.int 0 0), (PySem.Value.int 3 0), (PySem.Value.ref 199), (PySem.Value.bool Bool.true), (PySem.Value.int 181 0), (PySem.Value.ref 200), PySem.Value.none, PySem.Value.none, PySem.Value.none, (PySem.Value.ref 201), (PySem.Value.int 455 0), (PySem.Value.int 114 0), (PySem.Value.str (Str.ofString "/claim/cut.py") 456)]) #[])) ::
  (nat_lit 203, (PySem.Obj.mk (PySem.Value.type "function") (Option.none ) (PySem.Data.func (PySem.FuncData.mk (Str.ofString "minor_maps") (Str.ofString "minor_maps") (dAt 29).2.1 (.stmts (dAt 29).2.2.1) (dAt 29).2.2.2 3 [] PySem.Value.none PySem.Value.none PySem.Value.none (PySem.Value.str (Str.ofString "emacs.active") 450) (Option.none ) (PySem.Value.ref 202) PySem.Value.none 0)) #[])) ::
  (nat_lit 204, (PySem.Obj.mk (PySem.Value.type "tuple") (Option.none ) (PySem.Data.seq #[] 0) #[])) ::
  (nat_lit 205, (PySem.Obj.mk PySem.Value.none (Option.none ) (PySem.Data.fields #[]) #[])) ::
  (nat_lit 206, (PySem.Obj.mk (PySem.Value.type "tuple") (Option.none ) (PySem.Data.seq #[(PySem.Value.str (Str.ofString "overriding") 461), (PySem.Value.str (Str.ofString "at_point") 462), (PySem.Value.str (Str.ofString "emulation") 463), (PySem.Value.str (Str.ofString "minor") 464), (PySem.Value.str (Str.ofString "local") 465), (PySem.Value.str (Str.ofString "global_map") 466), (PySem.Value.str (Str.ofString "last") 467)] 0) #[])) ::
  (nat_lit 207, (PySem.Obj.mk (PySem.Value.type "tuple") (Option.none ) (PySem.Data.seq #[] 0) #[])) ::
  (nat_lit 208, (PySem.Obj.mk PySem.Value.none (Option.none ) (PySem.Data.func (PySem.FuncData.mk (Str.ofString "active_maps") (Str.ofString "active_maps") (dAt 30).2.1 (.stmts (dAt 30).2.2.1) (dAt 30).2.2.2 0 [] PySem.Value.none PySem.Value.none PySem.Value.none PySem.Value.none (Option.none ) PySem.Value.none PySem.Value.none 0)) #[])) ::
  (nat_lit 209, (PySem.Obj.mk (PySem.Value.type "code") (Option.none ) (PySem.Data.fields #[(PySem.Value.str (Str.ofString "active_maps") 458), (PySem.Value.str (Str.ofString "active_maps") 459), (PySem.Value.str (Str.ofString "/claim/cut.py") 460), (PySem.Value.int 121 0), (PySem.Value.int 6 0), (PySem.Value.int 0 0), (PySem.Value.int 0 0), (PySem.Value.int 3 0), (PySem.Value.ref 204), (PySem.Value.bool Bool.true), (PySem.Value.int 181 0), (PySem.Value.ref 205), PySem.Value.none, (PySem.Value.ref 206), (PySem.Value.ref 207), (PySem.Value.ref 208), (PySem.Value.int 468 0), (PySem.Value.int 121 0), (PySem.Value.str (Str.ofString "/claim/cut.py") 469)]) #[])) ::
  (nat_lit 210, (PySem.Obj.mk (PySem.Value.type "function") (Option.none ) (PySem.Data.func (PySem.FuncData.mk (Str.ofString "active_maps") (Str.ofString "active_maps") (dAt 30).2.1 (.stmts (dAt 30).2.2.1) (dAt 30).2.2.2 3 [] PySem.Value.none PySem.Value.none PySem.Value.none (PySem.Value.str (Str.ofString "emacs.active") 450) (Option.none ) (PySem.Value.ref 209) PySem.Value.none 0)) #[])) ::
  (nat_lit 218, (PySem.Obj.mk (PySem.Value.type "tuple") (Option.none ) (PySem.Data.seq #[] 0) #[])) ::
  (nat_lit 219, (PySem.Obj.mk PySem.Value.none (Option.none ) (PySem.Data.fields #[]) #[])) ::
  (nat_lit 220, (PySem.Obj.mk (PySem.Value.type "tuple") (Option.none ) (PySem.Data.seq #[(PySem.Value.str (Str.ofString "self") 486), (PySem.Value.str (Str.ofString "maps") 487)] 0) #[])) ::
  (nat_lit 221, (PySem.Obj.mk (PySem.Value.type "tuple") (Option.none ) (PySem.Data.seq #[] 0) #[])) ::
  (nat_lit 222, (PySem.Obj.mk PySem.Value.none (Option.none ) (PySem.Data.func (PySem.FuncData.mk (Str.ofString "__init__") (Str.ofString "ActiveKeys.__init__") (mAt 31 0).2.1 (.stmts (mAt 31 0).2.2.1) (mAt 31 0).2.2.2 0 [] PySem.Value.none PySem.Value.none PySem.Value.none PySem.Value.none (Option.none ) PySem.Value.none PySem.Value.none 0)) #[])) ::
  (nat_lit 223, (PySem.Obj.mk (PySem.Value.type "code") (Option.none ) (PySem.Data.fields #[(PySem.Value.str (Str.ofString "__init__") 483), (PySem.Value.str (Str.ofString "ActiveKeys.__init__") 484), (PySem.Value.str (Str.ofString "/claim/cut.py") 485), (PySem.Value.int 128 0), (PySem.Value.int 2 0), (PySem.Value.int 0 0), (PySem.Value.int 0 0), (PySem.Value.int 3 0), (PySem.Value.ref 218), (PySem.Value.bool Bool.true), (PySem.Value.int 181 0), (PySem.Value.ref 219), PySem.Value.none, (PySem.Value.ref 220), (PySem.Value.ref 221), (PySem.Value.ref 222), (PySem.Value.int 488 0), (PySem.Value.int 128 0), (PySem.Value.str (Str.ofString "/claim/cut.py") 489)]) #[])) ::
  (nat_lit 224, (PySem.Obj.mk (PySem.Value.type "function") (Option.none ) (PySem.Data.func (PySem.FuncData.mk (Str.ofString "__init__") (Str.ofString "ActiveKeys.__init__") (mAt 31 0).2.1 (.stmts (mAt 31 0).2.2.1) (mAt 31 0).2.2.2 3 [] PySem.Value.none PySem.Value.none PySem.Value.none (PySem.Value.str (Str.ofString "emacs.active") 450) (Option.none ) (PySem.Value.ref 223) PySem.Value.none 0)) #[])) ::
  (nat_lit 225, (PySem.Obj.mk (PySem.Value.type "tuple") (Option.none ) (PySem.Data.seq #[] 0) #[])) ::
  (nat_lit 226, (PySem.Obj.mk PySem.Value.none (Option.none ) (PySem.Data.fields #[]) #[])) ::
  (nat_lit 227, (PySem.Obj.mk (PySem.Value.type "tuple") (Option.none ) (PySem.Data.seq #[(PySem.Value.str (Str.ofString "self") 494), (PySem.Value.str (Str.ofString "keys") 495), (PySem.Value.str (Str.ofString "word") 496), (PySem.Value.str (Str.ofString "told") 497)] 0) #[])) ::
  (nat_lit 228, (PySem.Obj.mk (PySem.Value.type "tuple") (Option.none ) (PySem.Data.seq #[] 0) #[])) ::
  (nat_lit 229, (PySem.Obj.mk PySem.Value.none (Option.none ) (PySem.Data.func (PySem.FuncData.mk (Str.ofString "lookup") (Str.ofString "ActiveKeys.lookup") (mAt 31 1).2.1 (.stmts (mAt 31 1).2.2.1) (mAt 31 1).2.2.2 0 [] PySem.Value.none PySem.Value.none PySem.Value.none PySem.Value.none (Option.none ) PySem.Value.none PySem.Value.none 0)) #[])) ::
  (nat_lit 230, (PySem.Obj.mk (PySem.Value.type "code") (Option.none ) (PySem.Data.fields #[(PySem.Value.str (Str.ofString "lookup") 491), (PySem.Value.str (Str.ofString "ActiveKeys.lookup") 492), (PySem.Value.str (Str.ofString "/claim/cut.py") 493), (PySem.Value.int 131 0), (PySem.Value.int 2 0), (PySem.Value.int 0 0), (PySem.Value.int 0 0), (PySem.Value.int 3 0), (PySem.Value.ref 225), (PySem.Value.bool Bool.true), (PySem.Value.int 181 0), (PySem.Value.ref 226), PySem.Value.none, (PySem.Value.ref 227), (PySem.Value.ref 228), (PySem.Value.ref 229), (PySem.Value.int 498 0), (PySem.Value.int 131 0), (PySem.Value.str (Str.ofString "/claim/cut.py") 499)]) #[])) ::
  (nat_lit 231, (PySem.Obj.mk (PySem.Value.type "function") (Option.none ) (PySem.Data.func (PySem.FuncData.mk (Str.ofString "lookup") (Str.ofString "ActiveKeys.lookup") (mAt 31 1).2.1 (.stmts (mAt 31 1).2.2.1) (mAt 31 1).2.2.2 3 [] PySem.Value.none PySem.Value.none PySem.Value.none (PySem.Value.str (Str.ofString "emacs.active") 450) (Option.none ) (PySem.Value.ref 230) PySem.Value.none 0)) #[])) ::
  (nat_lit 232, (PySem.Obj.mk (PySem.Value.type "tuple") (Option.none ) (PySem.Data.seq #[(PySem.Value.str (Str.ofString "maps") 501)] 0) #[])) ::
  (nat_lit 233, (PySem.Obj.mk (PySem.Value.type "dict") (Option.none ) (PySem.Data.dict #[(PySem.DictEntry.mk (PySem.PyData.keyHash P (Str.ofString "__module__")) (PySem.Value.str (Str.ofString "__module__") 478) (PySem.Value.str (Str.ofString "emacs.active") 450)), (PySem.DictEntry.mk (PySem.PyData.keyHash P (Str.ofString "__firstlineno__")) (PySem.Value.str (Str.ofString "__firstlineno__") 482) (PySem.Value.int 126 481)), (PySem.DictEntry.mk (PySem.PyData.keyHash P (Str.ofString "__init__")) (PySem.Value.str (Str.ofString "__init__") 490) (PySem.Value.ref 224)), (PySem.DictEntry.mk (PySem.PyData.keyHash P (Str.ofString "lookup")) (PySem.Value.str (Str.ofString "lookup") 500) (PySem.Value.ref 231)), (PySem.DictEntry.mk (PySem.PyData.keyHash P (Str.ofString "__static_attributes__")) (PySem.Value.str (Str.ofString "__static_attributes__") 502) (PySem.Value.ref 232)), (PySem.DictEntry.mk (PySem.PyData.keyHash P (Str.ofString "__dict__")) (PySem.Value.str (Str.ofString "__dict__") 504) (PySem.Value.ref 235)), (PySem.DictEntry.mk (PySem.PyData.keyHash P (Str.ofString "__weakref__")) (PySem.Value.str (Str.ofString "__weakref__") 506) (PySem.Value.ref 236)), (PySem.DictEntry.mk (PySem.PyData.keyHash P (Str.ofString "__doc__")) (PySem.Value.str (Str.ofString "__doc__") 507) PySem.Value.none)] 4) #[])) ::
  (nat_lit 234, (PySem.Obj.mk (PySem.Value.type "type") (Option.none ) (PySem.Data.cls (PySem.ClassData.mk (Str.ofString "ActiveKeys") [(PySem.Value.type "object")] [(PySem.Value.ref 234), (PySem.Value.type "object")] 233 (Str.ofString "ActiveKeys") Bool.true [] [] Bool.false (Option.none ) Bool.false)) #[(Option.none ), (Option.none ), (Option.some (PySem.Value.str (Str.ofString "ActiveKeys") 471)), (Option.some (PySem.Value.str (Str.ofString "ActiveKeys") 479)), (Option.some (PySem.Value.builtin "object.__new__")), (Option.some (PySem.Value.bool Bool.true))])) ::
  (nat_lit 235, (PySem.Obj.mk (PySem.Value.type "getset_descriptor") (Option.none ) (PySem.Data.fields #[(PySem.Value.str (Str.ofString "__dict__") 503), (PySem.Value.ref 234), (PySem.Value.builtin "function.__dict__"), (PySem.Value.builtin "function.__dict__#set")]) #[])) ::
  (nat_lit 236, (PySem.Obj.mk (PySem.Value.type "getset_descriptor") (Option.none ) (PySem.Data.fields #[(PySem.Value.str (Str.ofString "__weakref__") 505), (PySem.Value.ref 234), (PySem.Value.builtin "ExceptionGroup.__weakref__"), PySem.Value.none]) #[])) ::
  (nat_lit 239, (PySem.Obj.mk (PySem.Value.type "tuple") (Option.none ) (PySem.Data.seq #[] 0) #[])) ::
  (nat_lit 240, (PySem.Obj.mk PySem.Value.none (Option.none ) (PySem.Data.fields #[]) #[])) ::
  (nat_lit 241, (PySem.Obj.mk (PySem.Value.type "tuple") (Option.none ) (PySem.Data.seq #[(PySem.Value.str (Str.ofString "deck") 515), (PySem.Value.str (Str.ofString "many") 516)] 0) #[])) ::
  (nat_lit 242, (PySem.Obj.mk (PySem.Value.type "tuple") (Option.none ) (PySem.Data.seq #[] 0) #[])) ::
  (nat_lit 243, (PySem.Obj.mk PySem.Value.none (Option.none ) (PySem.Data.func (PySem.FuncData.mk (Str.ofString "_law_draw") (Str.ofString "_law_draw") (dAt 33).2.1 (.stmts (dAt 33).2.2.1) (dAt 33).2.2.2 0 [] PySem.Value.none PySem.Value.none PySem.Value.none PySem.Value.none (Option.none ) PySem.Value.none PySem.Value.none 0)) #[])) ::
  (nat_lit 244, (PySem.Obj.mk (PySem.Value.type "code") (Option.none ) (PySem.Data.fields #[(PySem.Value.str (Str.ofString "_law_draw") 512), (PySem.Value.str (Str.ofString "_law_draw") 513), (PySem.Value.str (Str.ofString "/claim/cut.py") 514), (PySem.Value.int 139 0), (PySem.Value.int 2 0), (PySem.Value.int 0 0), (PySem.Value.int 0 0), (PySem.Value.int 3 0), (PySem.Value.ref 239), (PySem.Value.bool Bool.true), (PySem.Value.int 181 0), (PySem.Value.ref 240), PySem.Value.none, (PySem.Value.ref 241), (PySem.Value.ref 242), (PySem.Value.ref 243), (PySem.Value.int 517 0), (PySem.Value.int 139 0), (PySem.Value.str (Str.ofString "/claim/cut.py") 518)]) #[])) ::
  (nat_lit 245, (PySem.Obj.mk (PySem.Value.type "function") (Option.none ) (PySem.Data.func (PySem.FuncData.mk (Str.ofString "_law_draw") (Str.ofString "_law_draw") (dAt 33).2.1 (.stmts (dAt 33).2.2.1) (dAt 33).2.2.2 3 [] PySem.Value.none PySem.Value.none PySem.Value.none (PySem.Value.str (Str.ofString "law_ok0053_01") 510) (Option.none ) (PySem.Value.ref 244) PySem.Value.none 0)) #[])) ::
  (nat_lit 246, (PySem.Obj.mk (PySem.Value.type "tuple") (Option.none ) (PySem.Data.seq #[] 0) #[])) ::
  (nat_lit 247, (PySem.Obj.mk PySem.Value.none (Option.none ) (PySem.Data.fields #[]) #[])) ::
  (nat_lit 248, (PySem.Obj.mk (PySem.Value.type "tuple") (Option.none ) (PySem.Data.seq #[(PySem.Value.str (Str.ofString "deck") 523), (PySem.Value.str (Str.ofString "deep") 524), (PySem.Value.str (Str.ofString "keymap") 525), (PySem.Value.str (Str.ofString "own") 526), (PySem.Value.str (Str.ofString "event") 527), (PySem.Value.str (Str.ofString "way") 528), (PySem.Value.str (Str.ofString "binding") 529), (PySem.Value.str (Str.ofString "change") 530), (PySem.Value.str (Str.ofString "inner") 531)] 0) #[])) ::
  (nat_lit 249, (PySem.Obj.mk (PySem.Value.type "tuple") (Option.none ) (PySem.Data.seq #[] 0) #[])) ::
  (nat_lit 250, (PySem.Obj.mk PySem.Value.none (Option.none ) (PySem.Data.func (PySem.FuncData.mk (Str.ofString "_law_map") (Str.ofString "_law_map") (dAt 34).2.1 (.stmts (dAt 34).2.2.1) (dAt 34).2.2.2 0 [] PySem.Value.none PySem.Value.none PySem.Value.none PySem.Value.none (Option.none ) PySem.Value.none PySem.Value.none 0)) #[])) ::
  (nat_lit 251, (PySem.Obj.mk (PySem.Value.type "code") (Option.none ) (PySem.Data.fields #[(PySem.Value.str (Str.ofString "_law_map") 520), (PySem.Value.str (Str.ofString "_law_map") 521), (PySem.Value.str (Str.ofString "/claim/cut.py") 522), (PySem.Value.int 144 0), (PySem.Value.int 2 0), (PySem.Value.int 0 0), (PySem.Value.int 0 0), (PySem.Value.int 3 0), (PySem.Value.ref 246), (PySem.Value.bool Bool.true), (PySem.Value.int 181 0), (PySem.Value.ref 247), PySem.Value.none, (PySem.Value.ref 248), (PySem.Value.ref 249), (PySem.Value.ref 250), (PySem.Value.int 532 0), (PySem.Value.int 144 0), (PySem.Value.str (Str.ofString "/claim/cut.py") 533)]) #[])) ::
  (nat_lit 252, (PySem.Obj.mk (PySem.Value.type "function") (Option.none ) (PySem.Data.func (PySem.FuncData.mk (Str.ofString "_law_map") (Str.ofString "_law_map") (dAt 34).2.1 (.stmts (dAt 34).2.2.1) (dAt 34).2.2.2 3 [] PySem.Value.none PySem.Value.none PySem.Value.none (PySem.Value.str (Str.ofString "law_ok0053_01") 510) (Option.none ) (PySem.Value.ref 251) PySem.Value.none 0)) #[])) ::
  (nat_lit 253, (PySem.Obj.mk (PySem.Value.type "tuple") (Option.none ) (PySem.Data.seq #[] 0) #[])) ::
  (nat_lit 254, (PySem.Obj.mk PySem.Value.none (Option.none ) (PySem.Data.fields #[]) #[])) ::
  (nat_lit 255, (PySem.Obj.mk (PySem.Value.type "tuple") (Option.none ) (PySem.Data.seq #[(PySem.Value.str (Str.ofString "own") 538), (PySem.Value.str (Str.ofString "found") 539)] 0) #[])) ::
  (nat_lit 256, (PySem.Obj.mk (PySem.Value.type "tuple") (Option.none ) (PySem.Data.seq #[] 0) #[])) ::
  (nat_lit 257, (PySem.Obj.mk PySem.Value.none (Option.none ) (PySem.Data.func (PySem.FuncData.mk (Str.ofString "_law_chain") (Str.ofString "_law_chain") (dAt 35).2.1 (.stmts (dAt 35).2.2.1) (dAt 35).2.2.2 0 [] PySem.Value.none PySem.Value.none PySem.Value.none PySem.Value.none (Option.none ) PySem.Value.none PySem.Value.none 0)) #[])) ::
  (nat_lit 258, (PySem.Obj.mk (PySem.Value.type "code") (Option.none ) (PySem.Data.fields #[(PySem.Value.str (Str.ofString "_law_chain") 535), (PySem.Value.str (Str.ofString "_law_chain") 536), (PySem.Value.str (Str.ofString "/claim/cut.py") 537), (PySem.Value.int 167 0), (PySem.Value.int 1 0), (PySem.Value.int 0 0), (PySem.Value.int 0 0), (PySem.Value.int 3 0), (PySem.Value.ref 253), (PySem.Value.bool Bool.true), (PySem.Value.int 181 0), (PySem.Value.ref 254), PySem.Value.none, (PySem.Value.ref 255), (PySem.Value.ref 256), (PySem.Value.ref 257), (PySem.Value.int 540 0), (PySem.Value.int 167 0), (PySem.Value.str (Str.ofString "/claim/cut.py") 541)]) #[])) ::
  (nat_lit 259, (PySem.Obj.mk (PySem.Value.type "function") (Option.none ) (PySem.Data.func (PySem.FuncData.mk (Str.ofString "_law_chain") (Str.ofString "_law_chain") (dAt 35).2.1 (.stmts (dAt 35).2.2.1) (dAt 35).2.2.2 3 [] PySem.Value.none PySem.Value.none PySem.Value.none (PySem.Value.str (Str.ofString "law_ok0053_01") 510) (Option.none ) (PySem.Value.ref 258) PySem.Value.none 0)) #[])) ::
  (nat_lit 260, (PySem.Obj.mk (PySem.Value.type "tuple") (Option.none ) (PySem.Data.seq #[] 0) #[])) ::
  (nat_lit 261, (PySem.Obj.mk PySem.Value.none (Option.none ) (PySem.Data.fields #[]) #[])) ::
  (nat_lit 262, (PySem.Obj.mk PySem.Value.none (Option.none ) (PySem.Data.func (PySem.FuncData.mk (Str.ofString "_law_one") (Str.ofString "_law_one") (dAt 36).2.1 (.stmts (dAt 36).2.2.1) (dAt 36).2.2.2 0 [] PySem.Value.none PySem.Value.none PySem.Value.none PySem.Value.none (Option.none ) PySem.Value.none PySem.Value.none 0)) #[])) ::
  (nat_lit 263, (PySem.Obj.mk (PySem.Value.type "code") (Option.none ) (PySem.Data.fields #[(PySem.Value.str (Str.ofString "_law_one") 543), (PySem.Value.str (Str.ofString "_law_one") 544), (PySem.Value.str (Str.ofString "/claim/cut.py") 545), (PySem.Value.int 173 0), (PySem.Value.int 3 0), (PySem.Value.int 0 0), (PySem.Value.int 0 0), (PySem.Value.int 3 0), (PySem.Value.ref 260), (PySem.Value.bool Bool.true), (PySem.Value.int 181 0), (PySem.Value.ref 261), PySem.Value.none, PySem.Value.none, PySem.Value.none, (PySem.Value.ref 262), (PySem.Value.int 546 0), (PySem.Value.int 173 0), (PySem.Value.str (Str.ofString "/claim/cut.py") 547)]) #[])) ::
  (nat_lit 264, (PySem.Obj.mk (PySem.Value.type "function") (Option.none ) (PySem.Data.func (PySem.FuncData.mk (Str.ofString "_law_one") (Str.ofString "_law_one") (dAt 36).2.1 (.stmts (dAt 36).2.2.1) (dAt 36).2.2.2 3 [] PySem.Value.none PySem.Value.none PySem.Value.none (PySem.Value.str (Str.ofString "law_ok0053_01") 510) (Option.none ) (PySem.Value.ref 263) PySem.Value.none 0)) #[])) ::
  (nat_lit 265, (PySem.Obj.mk (PySem.Value.type "tuple") (Option.none ) (PySem.Data.seq #[] 0) #[])) ::
  (nat_lit 266, (PySem.Obj.mk PySem.Value.none (Option.none ) (PySem.Data.fields #[]) #[])) ::
  (nat_lit 267, (PySem.Obj.mk (PySem.Value.type "tuple") (Option.none ) (PySem.Data.seq #[(PySem.Value.str (Str.ofString "owns") 552), (PySem.Value.str (Str.ofString "events") 553), (PySem.Value.str (Str.ofString "has_default") 554), (PySem.Value.str (Str.ofString "here") 555), (PySem.Value.str (Str.ofString "at") 556), (PySem.Value.str (Str.ofString "inner") 557), (PySem.Value.str (Str.ofString "my_plain") 558), (PySem.Value.str (Str.ofString "own") 559), (PySem.Value.str (Str.ofString "told_one") 560)] 0) #[])) ::
  (nat_lit 268, (PySem.Obj.mk (PySem.Value.type "tuple") (Option.none ) (PySem.Data.seq #[] 0) #[])) ::
  (nat_lit 269, (PySem.Obj.mk PySem.Value.none (Option.none ) (PySem.Data.func (PySem.FuncData.mk (Str.ofString "_law_found") (Str.ofString "_law_found") (dAt 37).2.1 (.stmts (dAt 37).2.2.1) (dAt 37).2.2.2 0 [] PySem.Value.none PySem.Value.none PySem.Value.none PySem.Value.none (Option.none ) PySem.Value.none PySem.Value.none 0)) #[])) ::
  (nat_lit 270, (PySem.Obj.mk (PySem.Value.type "code") (Option.none ) (PySem.Data.fields #[(PySem.Value.str (Str.ofString "_law_found") 549), (PySem.Value.str (Str.ofString "_law_found") 550), (PySem.Value.str (Str.ofString "/claim/cut.py") 551), (PySem.Value.int 188 0), (PySem.Value.int 3 0), (PySem.Value.int 0 0), (PySem.Value.int 0 0), (PySem.Value.int 3 0), (PySem.Value.ref 265), (PySem.Value.bool Bool.true), (PySem.Value.int 181 0), (PySem.Value.ref 266), PySem.Value.none, (PySem.Value.ref 267), (PySem.Value.ref 268), (PySem.Value.ref 269), (PySem.Value.int 561 0), (PySem.Value.int 188 0), (PySem.Value.str (Str.ofString "/claim/cut.py") 562)]) #[])) ::
  (nat_lit 271, (PySem.Obj.mk (PySem.Value.type "function") (Option.none ) (PySem.Data.func (PySem.FuncData.mk (Str.ofString "_law_found") (Str.ofString "_law_found") (dAt 37).2.1 (.stmts (dAt 37).2.2.1) (dAt 37).2.2.2 3 [] PySem.Value.none PySem.Value.none PySem.Value.none (PySem.Value.str (Str.ofString "law_ok0053_01") 510) (Option.none ) (PySem.Value.ref 270) PySem.Value.none 0)) #[])) ::
  (nat_lit 272, (PySem.Obj.mk (PySem.Value.type "tuple") (Option.none ) (PySem.Data.seq #[] 0) #[])) ::
  (nat_lit 273, (PySem.Obj.mk PySem.Value.none (Option.none ) (PySem.Data.fields #[]) #[])) ::
  (nat_lit 274, (PySem.Obj.mk (PySem.Value.type "tuple") (Option.none ) (PySem.Data.seq #[(PySem.Value.str (Str.ofString "owns") 567), (PySem.Value.str (Str.ofString "events") 568), (PySem.Value.str (Str.ofString "found") 569), (PySem.Value.str (Str.ofString "other") 570)] 0) #[])) ::
  (nat_lit 275, (PySem.Obj.mk (PySem.Value.type "tuple") (Option.none ) (PySem.Data.seq #[] 0) #[])) ::
  (nat_lit 276, (PySem.Obj.mk PySem.Value.none (Option.none ) (PySem.Data.func (PySem.FuncData.mk (Str.ofString "_law_due") (Str.ofString "_law_due") (dAt 38).2.1 (.stmts (dAt 38).2.2.1) (dAt 38).2.2.2 0 [] PySem.Value.none PySem.Value.none PySem.Value.none PySem.Value.none (Option.none ) PySem.Value.none PySem.Value.none 0)) #[])) ::
  (nat_lit 277, (PySem.Obj.mk (PySem.Value.type "code") (Option.none ) (PySem.Data.fields #[(PySem.Value.str (Str.ofString "_law_due") 564), (PySem.Value.str (Str.ofString "_law_due") 565), (PySem.Value.str (Str.ofString "/claim/cut.py") 566), (PySem.Value.int 203 0), (PySem.Value.int 2 0), (PySem.Value.int 0 0), (PySem.Value.int 0 0), (PySem.Value.int 3 0), (PySem.Value.ref 272), (PySem.Value.bool Bool.true), (PySem.Value.int 181 0), (PySem.Value.ref 273), PySem.Value.none, (PySem.Value.ref 274), (PySem.Value.ref 275), (PySem.Value.ref 276), (PySem.Value.int 571 0), (PySem.Value.int 203 0), (PySem.Value.str (Str.ofString "/claim/cut.py") 572)]) #[])) ::
  (nat_lit 278, (PySem.Obj.mk (PySem.Value.type "function") (Option.none ) (PySem.Data.func (PySem.FuncData.mk (Str.ofString "_law_due") (Str.ofString "_law_due") (dAt 38).2.1 (.stmts (dAt 38).2.2.1) (dAt 38).2.2.2 3 [] PySem.Value.none PySem.Value.none PySem.Value.none (PySem.Value.str (Str.ofString "law_ok0053_01") 510) (Option.none ) (PySem.Value.ref 277) PySem.Value.none 0)) #[])) ::
  (nat_lit 279, (PySem.Obj.mk (PySem.Value.type "tuple") (Option.none ) (PySem.Data.seq #[] 0) #[])) ::
  (nat_lit 280, (PySem.Obj.mk PySem.Value.none (Option.none ) (PySem.Data.fields #[]) #[])) ::
  (nat_lit 281, (PySem.Obj.mk PySem.Value.none (Option.none ) (PySem.Data.func (PySem.FuncData.mk (Str.ofString "law") (Str.ofString "law") (dAt 39).2.1 (.stmts (dAt 39).2.2.1) (dAt 39).2.2.2 0 [] PySem.Value.none PySem.Value.none PySem.Value.none PySem.Value.none (Option.none ) PySem.Value.none PySem.Value.none 0)) #[])) ::
  (nat_lit 282, (PySem.Obj.mk (PySem.Value.type "code") (Option.none ) (PySem.Data.fields #[(PySem.Value.str (Str.ofString "law") 574), (PySem.Value.str (Str.ofString "law") 575), (PySem.Value.str (Str.ofString "/claim/cut.py") 576), (PySem.Value.int 211 0), (PySem.Value.int 1 0), (PySem.Value.int 0 0), (PySem.Value.int 0 0), (PySem.Value.int 3 0), (PySem.Value.ref 279), (PySem.Value.bool Bool.true), (PySem.Value.int 181 0), (PySem.Value.ref 280), PySem.Value.none, PySem.Value.none, PySem.Value.none, (PySem.Value.ref 281), (PySem.Value.int 577 0), (PySem.Value.int 211 0), (PySem.Value.str (Str.ofString "/claim/cut.py") 578)]) #[])) ::
  (nat_lit 283, (PySem.Obj.mk (PySem.Value.type "function") (Option.none ) (PySem.Data.func (PySem.FuncData.mk (Str.ofString "law") (Str.ofString "law") (dAt 39).2.1 (.stmts (dAt 39).2.2.1) (dAt 39).2.2.2 3 [] PySem.Value.none PySem.Value.none PySem.Value.none (PySem.Value.str (Str.ofString "law_ok0053_01") 510) (Option.none ) (PySem.Value.ref 282) PySem.Value.none 0)) #[])) :: []
noncomputable def AS : List Addr := [0, 1, 2, 3, 4, 5, 6, 7, 8, 9, 10, 11, 12, 13, 14, 15, 16, 17, 18, 19, 20, 21, 22, 23, 24, 25, 26, 27, 28, 29, 30, 31, 32, 33, 34, 35, 36, 37, 38, 39, 40, 41, 42, 43, 44, 45, 46, 47, 48, 49, 50, 57, 58, 59, 60, 61, 62, 63, 64, 65, 66, 67, 77, 78, 79, 80, 81, 82, 83, 84, 85, 86, 87, 88, 89, 90, 91, 92, 93, 94, 95, 96, 97, 98, 99, 100, 101, 102, 103, 104, 105, 106, 107, 108, 109, 110, 111, 112, 113, 114, 115, 116, 117, 118, 119, 120, 121, 122, 123, 124, 127, 128, 129, 130, 131, 132, 133, 134, 135, 136, 137, 138, 139, 140, 141, 142, 143, 144, 145, 146, 147, 148, 149, 150, 151, 152, 153, 154, 155, 156, 157, 158, 159, 160, 161, 162, 163, 164, 165, 166, 167, 168, 169, 170, 171, 172, 173, 174, 175, 176, 177, 178, 179, 180, 181, 182, 183, 184, 185, 186, 187, 188, 189, 190, 191, 192, 193, 194, 195, 196, 197, 198, 199, 200, 201, 202, 203, 204, 205, 206, 207, 208, 209, 210, 218, 219, 220, 221, 222, 223, 224, 225, 226, 227, 228, 229, 230, 231, 232, 233, 234, 235, 236, 239, 240, 241, 242, 243, 244, 245, 246, 247, 248, 249, 250, 251, 252, 253, 254, 255, 256, 257, 258, 259, 260, 261, 262, 263, 264, 265, 266, 267, 268, 269, 270, 271, 272, 273, 274, 275, 276, 277, 278, 279, 280, 281, 282, 283]

/-- the statements that are seen as they are written -/
noncomputable def VW : Program := { PW with main := { PW.main with body := [0, 2, 3, 4, 5, 6, 7, 9, 11, 12, 13, 14, 16, 17, 18, 19, 20, 21, 22, 23, 24, 25, 27, 29, 30, 31, 33, 34, 35, 36, 37, 38, 39].filterMap (PW.main.body[·]?) } }
noncomputable abbrev LO : List Str := [Str.ofString "META", Str.ofString "lookup_keys"]
noncomputable abbrev LV : List (Str × WData) := [(Str.ofString "META", .int 134217728)]

/-- the objects that KK leaves out -/
noncomputable def KX (P : PySem.Params) : Frag :=
  (nat_lit 51, (PySem.Obj.mk (PySem.Value.type "builtin_function_or_method") (Option.none ) (PySem.Data.fields #[(PySem.Value.builtin "type.__prepare__"), (PySem.Value.type "type")]) #[])) ::
  (nat_lit 52, (PySem.Obj.mk (PySem.Value.type "dict") (Option.none ) (PySem.Data.dict #[(PySem.DictEntry.mk (PySem.PyData.keyHash P (Str.ofString "__module__")) (PySem.Value.str (Str.ofString "__module__") 241) (PySem.Value.str (Str.ofString "emacs.errors") 232)), (PySem.DictEntry.mk (PySem.PyData.keyHash P (Str.ofString "__qualname__")) (PySem.Value.str (Str.ofString "__qualname__") 243) (PySem.Value.str (Str.ofString "LispSignal") 242)), (PySem.DictEntry.mk (PySem.PyData.keyHash P (Str.ofString "__firstlineno__")) (PySem.Value.str (Str.ofString "__firstlineno__") 245) (PySem.Value.int 21 244)), (PySem.DictEntry.mk (PySem.PyData.keyHash P (Str.ofString "__init__")) (PySem.Value.str (Str.ofString "__init__") 254) (PySem.Value.ref 63)), (PySem.DictEntry.mk (PySem.PyData.keyHash P (Str.ofString "__static_attributes__")) (PySem.Value.str (Str.ofString "__static_attributes__") 257) (PySem.Value.ref 64))] 5) #[])) ::
  (nat_lit 53, (PySem.Obj.mk (PySem.Value.type "tuple") (Option.none ) (PySem.Data.seq #[] 0) #[])) ::
  (nat_lit 54, (PySem.Obj.mk PySem.Value.none (Option.none ) (PySem.Data.fields #[(PySem.Value.int 23 0), (PySem.Value.int 4 0), (PySem.Value.ref 62)]) #[])) ::
  (nat_lit 55, (PySem.Obj.mk (PySem.Value.type "code") (Option.none ) (PySem.Data.fields #[(PySem.Value.str (Str.ofString "LispSignal") 236), (PySem.Value.str (Str.ofString "LispSignal") 237), (PySem.Value.str (Str.ofString "/claim/cut.py") 238), (PySem.Value.int 21 0), (PySem.Value.int 0 0), (PySem.Value.int 0 0), (PySem.Value.int 0 0), (PySem.Value.int 0 0), (PySem.Value.ref 53), (PySem.Value.bool Bool.false), (PySem.Value.int 181 0), (PySem.Value.ref 54), PySem.Value.none, PySem.Value.none, PySem.Value.none, PySem.Value.none, (PySem.Value.int 239 0), (PySem.Value.int 21 0), (PySem.Value.str (Str.ofString "/claim/cut.py") 240)]) #[])) ::
  (nat_lit 56, (PySem.Obj.mk (PySem.Value.type "frame") (Option.none ) PySem.Data.plain #[(Option.some (PySem.Value.ref 55)), (Option.some (PySem.Value.ref 3)), (Option.some (PySem.Value.ref 52)), (Option.none ), (Option.some (PySem.Value.str (Str.ofString "emacs.errors") 232)), (Option.none ), (Option.some (PySem.Value.ref 0))])) ::
  (nat_lit 68, (PySem.Obj.mk (PySem.Value.type "super") (Option.none ) (PySem.Data.fields #[(PySem.Value.ref 66), (PySem.Value.ref 66), (PySem.Value.ref 66)]) #[])) ::
  (nat_lit 69, (PySem.Obj.mk (PySem.Value.type "builtin_function_or_method") (Option.none ) (PySem.Data.fields #[(PySem.Value.builtin "object.__init_subclass__"), (PySem.Value.ref 66)]) #[])) ::
  (nat_lit 70, (PySem.Obj.mk (PySem.Value.type "tuple") (Option.none ) (PySem.Data.seq #[] 0) #[])) ::
  (nat_lit 71, (PySem.Obj.mk (PySem.Value.type "builtin_function_or_method") (Option.none ) (PySem.Data.fields #[(PySem.Value.builtin "type.__prepare__"), (PySem.Value.type "type")]) #[])) ::
  (nat_lit 72, (PySem.Obj.mk (PySem.Value.type "dict") (Option.none ) (PySem.Data.dict #[(PySem.DictEntry.mk (PySem.PyData.keyHash P (Str.ofString "__module__")) (PySem.Value.str (Str.ofString "__module__") 274) (PySem.Value.str (Str.ofString "emacs.keymaps") 265)), (PySem.DictEntry.mk (PySem.PyData.keyHash P (Str.ofString "__qualname__")) (PySem.Value.str (Str.ofString "__qualname__") 276) (PySem.Value.str (Str.ofString "Keymap") 275)), (PySem.DictEntry.mk (PySem.PyData.keyHash P (Str.ofString "__firstlineno__")) (PySem.Value.str (Str.ofString "__firstlineno__") 278) (PySem.Value.int 27 277)), (PySem.DictEntry.mk (PySem.PyData.keyHash P (Str.ofString "__init__")) (PySem.Value.str (Str.ofString "__init__") 287) (PySem.Value.ref 84)), (PySem.DictEntry.mk (PySem.PyData.keyHash P (Str.ofString "is_bound")) (PySem.Value.str (Str.ofString "is_bound") 295) (PySem.Value.ref 91)), (PySem.DictEntry.mk (PySem.PyData.keyHash P (Str.ofString "own")) (PySem.Value.str (Str.ofString "own") 303) (PySem.Value.ref 98)), (PySem.DictEntry.mk (PySem.PyData.keyHash P (Str.ofString "put")) (PySem.Value.str (Str.ofString "put") 312) (PySem.Value.ref 105)), (PySem.DictEntry.mk (PySem.PyData.keyHash P (Str.ofString "drop")) (PySem.Value.str (Str.ofString "drop") 320) (PySem.Value.ref 112)), (PySem.DictEntry.mk (PySem.PyData.keyHash P (Str.ofString "set_default")) (PySem.Value.str (Str.ofString "set_default") 328) (PySem.Value.ref 119)), (PySem.DictEntry.mk (PySem.PyData.keyHash P (Str.ofString "__static_attributes__")) (PySem.Value.str (Str.ofString "__static_attributes__") 334) (PySem.Value.ref 120))] 10) #[])) ::
  (nat_lit 73, (PySem.Obj.mk (PySem.Value.type "tuple") (Option.none ) (PySem.Data.seq #[] 0) #[])) ::
  (nat_lit 74, (PySem.Obj.mk PySem.Value.none (Option.none ) (PySem.Data.fields #[(PySem.Value.int 29 0), (PySem.Value.int 4 0), (PySem.Value.ref 83), (PySem.Value.int 36 0), (PySem.Value.int 4 0), (PySem.Value.ref 90), (PySem.Value.int 39 0), (PySem.Value.int 4 0), (PySem.Value.ref 97), (PySem.Value.int 42 0), (PySem.Value.int 4 0), (PySem.Value.ref 104), (PySem.Value.int 45 0), (PySem.Value.int 4 0), (PySem.Value.ref 111), (PySem.Value.int 48 0), (PySem.Value.int 4 0), (PySem.Value.ref 118)]) #[])) ::
  (nat_lit 75, (PySem.Obj.mk (PySem.Value.type "code") (Option.none ) (PySem.Data.fields #[(PySem.Value.str (Str.ofString "Keymap") 269), (PySem.Value.str (Str.ofString "Keymap") 270), (PySem.Value.str (Str.ofString "/claim/cut.py") 271), (PySem.Value.int 27 0), (PySem.Value.int 0 0), (PySem.Value.int 0 0), (PySem.Value.int 0 0), (PySem.Value.int 0 0), (PySem.Value.ref 73), (PySem.Value.bool Bool.false), (PySem.Value.int 181 0), (PySem.Value.ref 74), PySem.Value.none, PySem.Value.none, PySem.Value.none, PySem.Value.none, (PySem.Value.int 272 0), (PySem.Value.int 27 0), (PySem.Value.str (Str.ofString "/claim/cut.py") 273)]) #[])) ::
  (nat_lit 76, (PySem.Obj.mk (PySem.Value.type "frame") (Option.none ) PySem.Data.plain #[(Option.some (PySem.Value.ref 75)), (Option.some (PySem.Value.ref 3)), (Option.some (PySem.Value.ref 72)), (Option.none ), (Option.some (PySem.Value.str (Str.ofString "emacs.keymaps") 265)), (Option.none ), (Option.some (PySem.Value.ref 0))])) ::
  (nat_lit 125, (PySem.Obj.mk (PySem.Value.type "super") (Option.none ) (PySem.Data.fields #[(PySem.Value.ref 122), (PySem.Value.ref 122), (PySem.Value.ref 122)]) #[])) ::
  (nat_lit 126, (PySem.Obj.mk (PySem.Value.type "builtin_function_or_method") (Option.none ) (PySem.Data.fields #[(PySem.Value.builtin "object.__init_subclass__"), (PySem.Value.ref 122)]) #[])) ::
  (nat_lit 211, (PySem.Obj.mk (PySem.Value.type "tuple") (Option.none ) (PySem.Data.seq #[] 0) #[])) ::
  (nat_lit 212, (PySem.Obj.mk (PySem.Value.type "builtin_function_or_method") (Option.none ) (PySem.Data.fields #[(PySem.Value.builtin "type.__prepare__"), (PySem.Value.type "type")]) #[])) ::
  (nat_lit 213, (PySem.Obj.mk (PySem.Value.type "dict") (Option.none ) (PySem.Data.dict #[(PySem.DictEntry.mk (PySem.PyData.keyHash P (Str.ofString "__module__")) (PySem.Value.str (Str.ofString "__module__") 478) (PySem.Value.str (Str.ofString "emacs.active") 450)), (PySem.DictEntry.mk (PySem.PyData.keyHash P (Str.ofString "__qualname__")) (PySem.Value.str (Str.ofString "__qualname__") 480) (PySem.Value.str (Str.ofString "ActiveKeys") 479)), (PySem.DictEntry.mk (PySem.PyData.keyHash P (Str.ofString "__firstlineno__")) (PySem.Value.str (Str.ofString "__firstlineno__") 482) (PySem.Value.int 126 481)), (PySem.DictEntry.mk (PySem.PyData.keyHash P (Str.ofString "__init__")) (PySem.Value.str (Str.ofString "__init__") 490) (PySem.Value.ref 224)), (PySem.DictEntry.mk (PySem.PyData.keyHash P (Str.ofString "lookup")) (PySem.Value.str (Str.ofString "lookup") 500) (PySem.Value.ref 231)), (PySem.DictEntry.mk (PySem.PyData.keyHash P (Str.ofString "__static_attributes__")) (PySem.Value.str (Str.ofString "__static_attributes__") 502) (PySem.Value.ref 232))] 6) #[])) ::
  (nat_lit 214, (PySem.Obj.mk (PySem.Value.type "tuple") (Option.none ) (PySem.Data.seq #[] 0) #[])) ::
  (nat_lit 215, (PySem.Obj.mk PySem.Value.none (Option.none ) (PySem.Data.fields #[(PySem.Value.int 128 0), (PySem.Value.int 4 0), (PySem.Value.ref 223), (PySem.Value.int 131 0), (PySem.Value.int 4 0), (PySem.Value.ref 230)]) #[])) ::
  (nat_lit 216, (PySem.Obj.mk (PySem.Value.type "code") (Option.none ) (PySem.Data.fields #[(PySem.Value.str (Str.ofString "ActiveKeys") 473), (PySem.Value.str (Str.ofString "ActiveKeys") 474), (PySem.Value.str (Str.ofString "/claim/cut.py") 475), (PySem.Value.int 126 0), (PySem.Value.int 0 0), (PySem.Value.int 0 0), (PySem.Value.int 0 0), (PySem.Value.int 0 0), (PySem.Value.ref 214), (PySem.Value.bool Bool.false), (PySem.Value.int 181 0), (PySem.Value.ref 215), PySem.Value.none, PySem.Value.none, PySem.Value.none, PySem.Value.none, (PySem.Value.int 476 0), (PySem.Value.int 126 0), (PySem.Value.str (Str.ofString "/claim/cut.py") 477)]) #[])) ::
  (nat_lit 217, (PySem.Obj.mk (PySem.Value.type "frame") (Option.none ) PySem.Data.plain #[(Option.some (PySem.Value.ref 216)), (Option.some (PySem.Value.ref 3)), (Option.some (PySem.Value.ref 213)), (Option.none ), (Option.some (PySem.Value.str (Str.ofString "emacs.active") 450)), (Option.none ), (Option.some (PySem.Value.ref 0))])) ::
  (nat_lit 237, (PySem.Obj.mk (PySem.Value.type "super") (Option.none ) (PySem.Data.fields #[(PySem.Value.ref 234), (PySem.Value.ref 234), (PySem.Value.ref 234)]) #[])) ::
  (nat_lit 238, (PySem.Obj.mk (PySem.Value.type "builtin_function_or_method") (Option.none ) (PySem.Data.fields #[(PySem.Value.builtin "object.__init_subclass__"), (PySem.Value.ref 234)]) #[])) :: []
noncomputable def mrg : Frag → Frag → Nat → List Obj
  | _, _, 0 => []
  | p :: r, [], n + 1 => p.2 :: mrg r [] n
  | [], q :: r', n + 1 => q.2 :: mrg [] r' n
  | [], [], _ + 1 => []
  | p :: r, q :: r', n + 1 => match Nat.ble p.1 q.1 with
    | true => p.2 :: mrg r (q :: r') n
    | false => q.2 :: mrg (p :: r) r' n
noncomputable def KA (P : PySem.Params) : List Obj := mrg (KK P) (KX P) 284
/-- the heap amid the top's run: n objects, those at 2, 3, 12 in their state then -/
noncomputable def KH (P : PySem.Params) (n : Nat) (o2 o3 o12 : Obj) : Heap := ⟨(((((KA P).take n).set 2 o2).set 3 o3).set 12 o12).toArray, {}⟩
noncomputable def o1000_2 (P : PySem.Params) : Obj := (PySem.Obj.mk PySem.Value.none (Option.none ) (PySem.Data.dict #[] 0) #[])
noncomputable def o1000_3 (P : PySem.Params) : Obj := (PySem.Obj.mk (PySem.Value.type "dict") (Option.none ) (PySem.Data.dict #[(PySem.DictEntry.mk (PySem.PyData.keyHash P (Str.ofString "__name__")) (PySem.Value.str (Str.ofString "__name__") 165) (PySem.Value.str (Str.ofString "__main__") 164)), (PySem.DictEntry.mk (PySem.PyData.keyHash P (Str.ofString "__doc__")) (PySem.Value.str (Str.ofString "__doc__") 166) PySem.Value.none), (PySem.DictEntry.mk (PySem.PyData.keyHash P (Str.ofString "__package__")) (PySem.Value.str (Str.ofString "__package__") 167) PySem.Value.none), (PySem.DictEntry.mk (PySem.PyData.keyHash P (Str.ofString "__loader__")) (PySem.Value.str (Str.ofString "__loader__") 168) (PySem.Value.builtin "__main__.__loader__#opaque")), (PySem.DictEntry.mk (PySem.PyData.keyHash P (Str.ofString "__spec__")) (PySem.Value.str (Str.ofString "__spec__") 169) PySem.Value.none), (PySem.DictEntry.mk (PySem.PyData.keyHash P (Str.ofString "__annotations__")) (PySem.Value.str (Str.ofString "__annotations__") 170) (PySem.Value.ref 6)), (PySem.DictEntry.mk (PySem.PyData.keyHash P (Str.ofString "__builtins__")) (PySem.Value.str (Str.ofString "__builtins__") 171) (PySem.Value.ref 4)), (PySem.DictEntry.mk (PySem.PyData.keyHash P (Str.ofString "__file__")) (PySem.Value.str (Str.ofString "__file__") 173) (PySem.Value.str (Str.ofString "/claim/cut.py") 172)), (PySem.DictEntry.mk (PySem.PyData.keyHash P (Str.ofString "__cached__")) (PySem.Value.str (Str.ofString "__cached__") 174) PySem.Value.none)] 9) #[])
noncomputable def o1000_12 (P : PySem.Params) : Obj := (PySem.Obj.mk PySem.Value.none (Option.none ) (PySem.Data.fields #[]) #[])
noncomputable def o10_3 (P : PySem.Params) : Obj := (PySem.Obj.mk (PySem.Value.type "dict") (Option.none ) (PySem.Data.dict #[(PySem.DictEntry.mk (PySem.PyData.keyHash P (Str.ofString "__name__")) (PySem.Value.str (Str.ofString "__name__") 165) (PySem.Value.str (Str.ofString "emacs.keymaps") 265)), (PySem.DictEntry.mk (PySem.PyData.keyHash P (Str.ofString "__doc__")) (PySem.Value.str (Str.ofString "__doc__") 166) PySem.Value.none), (PySem.DictEntry.mk (PySem.PyData.keyHash P (Str.ofString "__package__")) (PySem.Value.str (Str.ofString "__package__") 167) PySem.Value.none), (PySem.DictEntry.mk (PySem.PyData.keyHash P (Str.ofString "__loader__")) (PySem.Value.str (Str.ofString "__loader__") 168) (PySem.Value.builtin "__main__.__loader__#opaque")), (PySem.DictEntry.mk (PySem.PyData.keyHash P (Str.ofString "__spec__")) (PySem.Value.str (Str.ofString "__spec__") 169) PySem.Value.none), (PySem.DictEntry.mk (PySem.PyData.keyHash P (Str.ofString "__annotations__")) (PySem.Value.str (Str.ofString "__annotations__") 170) (PySem.Value.ref 6)), (PySem.DictEntry.mk (PySem.PyData.keyHash P (Str.ofString "__builtins__")) (PySem.Value.str (Str.ofString "__builtins__") 171) (PySem.Value.ref 4)), (PySem.DictEntry.mk (PySem.PyData.keyHash P (Str.ofString "__file__")) (PySem.Value.str (Str.ofString "__file__") 173) (PySem.Value.str (Str.ofString "/claim/cut.py") 172)), (PySem.DictEntry.mk (PySem.PyData.keyHash P (Str.ofString "__cached__")) (PySem.Value.str (Str.ofString "__cached__") 174) PySem.Value.none), (PySem.DictEntry.mk (PySem.PyData.keyHash P (Str.ofString "_wall")) (PySem.Value.str (Str.ofString "_wall") 193) (PySem.Value.ref 21)), (PySem.DictEntry.mk (PySem.PyData.keyHash P (Str.ofString "META")) (PySem.Value.str (Str.ofString "META") 199) (PySem.Value.int 134217728 198)), (PySem.DictEntry.mk (PySem.PyData.keyHash P (Str.ofString "ESCAPE")) (PySem.Value.str (Str.ofString "ESCAPE") 201) (PySem.Value.int 27 200)), (PySem.DictEntry.mk (PySem.PyData.keyHash P (Str.ofString "is_sign")) (PySem.Value.str (Str.ofString "is_sign") 208) (PySem.Value.ref 28)), (PySem.DictEntry.mk (PySem.PyData.keyHash P (Str.ofString "has_meta")) (PySem.Value.str (Str.ofString "has_meta") 215) (PySem.Value.ref 35)), (PySem.DictEntry.mk (PySem.PyData.keyHash P (Str.ofString "without_meta")) (PySem.Value.str (Str.ofString "without_meta") 222) (PySem.Value.ref 42)), (PySem.DictEntry.mk (PySem.PyData.keyHash P (Str.ofString "spread_meta")) (PySem.Value.str (Str.ofString "spread_meta") 231) (PySem.Value.ref 49)), (PySem.DictEntry.mk (PySem.PyData.keyHash P (Str.ofString "LispSignal")) (PySem.Value.str (Str.ofString "LispSignal") 264) (PySem.Value.ref 66))] 17) #[])
noncomputable def o10_12 (P : PySem.Params) : Obj := (PySem.Obj.mk PySem.Value.none (Option.none ) (PySem.Data.fields #[(PySem.Value.int 1 0), (PySem.Value.int 0 0), (PySem.Value.ref 20), (PySem.Value.int 7 0), (PySem.Value.int 0 0), (PySem.Value.ref 27), (PySem.Value.int 9 0), (PySem.Value.int 0 0), (PySem.Value.ref 34), (PySem.Value.int 11 0), (PySem.Value.int 0 0), (PySem.Value.ref 41), (PySem.Value.int 13 0), (PySem.Value.int 0 0), (PySem.Value.ref 48), (PySem.Value.int 21 0), (PySem.Value.int 0 0), (PySem.Value.ref 55)]) #[])
noncomputable def o11_3 (P : PySem.Params) : Obj := (PySem.Obj.mk (PySem.Value.type "dict") (Option.none ) (PySem.Data.dict #[(PySem.DictEntry.mk (PySem.PyData.keyHash P (Str.ofString "__name__")) (PySem.Value.str (Str.ofString "__name__") 165) (PySem.Value.str (Str.ofString "emacs.keymaps") 265)), (PySem.DictEntry.mk (PySem.PyData.keyHash P (Str.ofString "__doc__")) (PySem.Value.str (Str.ofString "__doc__") 166) PySem.Value.none), (PySem.DictEntry.mk (PySem.PyData.keyHash P (Str.ofString "__package__")) (PySem.Value.str (Str.ofString "__package__") 167) PySem.Value.none), (PySem.DictEntry.mk (PySem.PyData.keyHash P (Str.ofString "__loader__")) (PySem.Value.str (Str.ofString "__loader__") 168) (PySem.Value.builtin "__main__.__loader__#opaque")), (PySem.DictEntry.mk (PySem.PyData.keyHash P (Str.ofString "__spec__")) (PySem.Value.str (Str.ofString "__spec__") 169) PySem.Value.none), (PySem.DictEntry.mk (PySem.PyData.keyHash P (Str.ofString "__annotations__")) (PySem.Value.str (Str.ofString "__annotations__") 170) (PySem.Value.ref 6)), (PySem.DictEntry.mk (PySem.PyData.keyHash P (Str.ofString "__builtins__")) (PySem.Value.str (Str.ofString "__builtins__") 171) (PySem.Value.ref 4)), (PySem.DictEntry.mk (PySem.PyData.keyHash P (Str.ofString "__file__")) (PySem.Value.str (Str.ofString "__file__") 173) (PySem.Value.str (Str.ofString "/claim/cut.py") 172)), (PySem.DictEntry.mk (PySem.PyData.keyHash P (Str.ofString "__cached__")) (PySem.Value.str (Str.ofString "__cached__") 174) PySem.Value.none), (PySem.DictEntry.mk (PySem.PyData.keyHash P (Str.ofString "_wall")) (PySem.Value.str (Str.ofString "_wall") 193) (PySem.Value.ref 21)), (PySem.DictEntry.mk (PySem.PyData.keyHash P (Str.ofString "META")) (PySem.Value.str (Str.ofString "META") 199) (PySem.Value.int 134217728 198)), (PySem.DictEntry.mk (PySem.PyData.keyHash P (Str.ofString "ESCAPE")) (PySem.Value.str (Str.ofString "ESCAPE") 201) (PySem.Value.int 27 200)), (PySem.DictEntry.mk (PySem.PyData.keyHash P (Str.ofString "is_sign")) (PySem.Value.str (Str.ofString "is_sign") 208) (PySem.Value.ref 28)), (PySem.DictEntry.mk (PySem.PyData.keyHash P (Str.ofString "has_meta")) (PySem.Value.str (Str.ofString "has_meta") 215) (PySem.Value.ref 35)), (PySem.DictEntry.mk (PySem.PyData.keyHash P (Str.ofString "without_meta")) (PySem.Value.str (Str.ofString "without_meta") 222) (PySem.Value.ref 42)), (PySem.DictEntry.mk (PySem.PyData.keyHash P (Str.ofString "spread_meta")) (PySem.Value.str (Str.ofString "spread_meta") 231) (PySem.Value.ref 49)), (PySem.DictEntry.mk (PySem.PyData.keyHash P (Str.ofString "LispSignal")) (PySem.Value.str (Str.ofString "LispSignal") 264) (PySem.Value.ref 66)), (PySem.DictEntry.mk (PySem.PyData.keyHash P (Str.ofString "Keymap")) (PySem.Value.str (Str.ofString "Keymap") 341) (PySem.Value.ref 122))] 18) #[])
noncomputable def o11_12 (P : PySem.Params) : Obj := (PySem.Obj.mk PySem.Value.none (Option.none ) (PySem.Data.fields #[(PySem.Value.int 1 0), (PySem.Value.int 0 0), (PySem.Value.ref 20), (PySem.Value.int 7 0), (PySem.Value.int 0 0), (PySem.Value.ref 27), (PySem.Value.int 9 0), (PySem.Value.int 0 0), (PySem.Value.ref 34), (PySem.Value.int 11 0), (PySem.Value.int 0 0), (PySem.Value.ref 41), (PySem.Value.int 13 0), (PySem.Value.int 0 0), (PySem.Value.ref 48), (PySem.Value.int 21 0), (PySem.Value.int 0 0), (PySem.Value.ref 55), (PySem.Value.int 27 0), (PySem.Value.int 0 0), (PySem.Value.ref 75)]) #[])
noncomputable def o29_3 (P : PySem.Params) : Obj := (PySem.Obj.mk (PySem.Value.type "dict") (Option.none ) (PySem.Data.dict #[(PySem.DictEntry.mk (PySem.PyData.keyHash P (Str.ofString "__name__")) (PySem.Value.str (Str.ofString "__name__") 165) (PySem.Value.str (Str.ofString "emacs.active") 450)), (PySem.DictEntry.mk (PySem.PyData.keyHash P (Str.ofString "__doc__")) (PySem.Value.str (Str.ofString "__doc__") 166) PySem.Value.none), (PySem.DictEntry.mk (PySem.PyData.keyHash P (Str.ofString "__package__")) (PySem.Value.str (Str.ofString "__package__") 167) PySem.Value.none), (PySem.DictEntry.mk (PySem.PyData.keyHash P (Str.ofString "__loader__")) (PySem.Value.str (Str.ofString "__loader__") 168) (PySem.Value.builtin "__main__.__loader__#opaque")), (PySem.DictEntry.mk (PySem.PyData.keyHash P (Str.ofString "__spec__")) (PySem.Value.str (Str.ofString "__spec__") 169) PySem.Value.none), (PySem.DictEntry.mk (PySem.PyData.keyHash P (Str.ofString "__annotations__")) (PySem.Value.str (Str.ofString "__annotations__") 170) (PySem.Value.ref 6)), (PySem.DictEntry.mk (PySem.PyData.keyHash P (Str.ofString "__builtins__")) (PySem.Value.str (Str.ofString "__builtins__") 171) (PySem.Value.ref 4)), (PySem.DictEntry.mk (PySem.PyData.keyHash P (Str.ofString "__file__")) (PySem.Value.str (Str.ofString "__file__") 173) (PySem.Value.str (Str.ofString "/claim/cut.py") 172)), (PySem.DictEntry.mk (PySem.PyData.keyHash P (Str.ofString "__cached__")) (PySem.Value.str (Str.ofString "__cached__") 174) PySem.Value.none), (PySem.DictEntry.mk (PySem.PyData.keyHash P (Str.ofString "_wall")) (PySem.Value.str (Str.ofString "_wall") 193) (PySem.Value.ref 21)), (PySem.DictEntry.mk (PySem.PyData.keyHash P (Str.ofString "META")) (PySem.Value.str (Str.ofString "META") 199) (PySem.Value.int 134217728 198)), (PySem.DictEntry.mk (PySem.PyData.keyHash P (Str.ofString "ESCAPE")) (PySem.Value.str (Str.ofString "ESCAPE") 201) (PySem.Value.int 27 200)), (PySem.DictEntry.mk (PySem.PyData.keyHash P (Str.ofString "is_sign")) (PySem.Value.str (Str.ofString "is_sign") 208) (PySem.Value.ref 28)), (PySem.DictEntry.mk (PySem.PyData.keyHash P (Str.ofString "has_meta")) (PySem.Value.str (Str.ofString "has_meta") 215) (PySem.Value.ref 35)), (PySem.DictEntry.mk (PySem.PyData.keyHash P (Str.ofString "without_meta")) (PySem.Value.str (Str.ofString "without_meta") 222) (PySem.Value.ref 42)), (PySem.DictEntry.mk (PySem.PyData.keyHash P (Str.ofString "spread_meta")) (PySem.Value.str (Str.ofString "spread_meta") 231) (PySem.Value.ref 49)), (PySem.DictEntry.mk (PySem.PyData.keyHash P (Str.ofString "LispSignal")) (PySem.Value.str (Str.ofString "LispSignal") 264) (PySem.Value.ref 66)), (PySem.DictEntry.mk (PySem.PyData.keyHash P (Str.ofString "Keymap")) (PySem.Value.str (Str.ofString "Keymap") 341) (PySem.Value.ref 122)), (PySem.DictEntry.mk (PySem.PyData.keyHash P (Str.ofString "is_keymap")) (PySem.Value.str (Str.ofString "is_keymap") 348) (PySem.Value.ref 133)), (PySem.DictEntry.mk (PySem.PyData.keyHash P (Str.ofString "chain_of")) (PySem.Value.str (Str.ofString "chain_of") 356) (PySem.Value.ref 140)), (PySem.DictEntry.mk (PySem.PyData.keyHash P (Str.ofString "set_parent")) (PySem.Value.str (Str.ofString "set_parent") 362) (PySem.Value.ref 145)), (PySem.DictEntry.mk (PySem.PyData.keyHash P (Str.ofString "NONE")) (PySem.Value.str (Str.ofString "NONE") 366) (PySem.Value.str (Str.ofString "none") 365)), (PySem.DictEntry.mk (PySem.PyData.keyHash P (Str.ofString "PREFIX")) (PySem.Value.str (Str.ofString "PREFIX") 368) (PySem.Value.str (Str.ofString "prefix") 367)), (PySem.DictEntry.mk (PySem.PyData.keyHash P (Str.ofString "BOUND")) (PySem.Value.str (Str.ofString "BOUND") 370) (PySem.Value.str (Str.ofString "bound") 369)), (PySem.DictEntry.mk (PySem.PyData.keyHash P (Str.ofString "LONG")) (PySem.Value.str (Str.ofString "LONG") 372) (PySem.Value.str (Str.ofString "long") 371)), (PySem.DictEntry.mk (PySem.PyData.keyHash P (Str.ofString "rows_along")) (PySem.Value.str (Str.ofString "rows_along") 378) (PySem.Value.ref 150)), (PySem.DictEntry.mk (PySem.PyData.keyHash P (Str.ofString "defaults_along")) (PySem.Value.str (Str.ofString "defaults_along") 384) (PySem.Value.ref 155)), (PySem.DictEntry.mk (PySem.PyData.keyHash P (Str.ofString "bindings_in")) (PySem.Value.str (Str.ofString "bindings_in") 394) (PySem.Value.ref 162)), (PySem.DictEntry.mk (PySem.PyData.keyHash P (Str.ofString "joined")) (PySem.Value.str (Str.ofString "joined") 403) (PySem.Value.ref 169)), (PySem.DictEntry.mk (PySem.PyData.keyHash P (Str.ofString "first_in")) (PySem.Value.str (Str.ofString "first_in") 413) (PySem.Value.ref 176)), (PySem.DictEntry.mk (PySem.PyData.keyHash P (Str.ofString "found_in")) (PySem.Value.str (Str.ofString "found_in") 425) (PySem.Value.ref 183)), (PySem.DictEntry.mk (PySem.PyData.keyHash P (Str.ofString "lookup_keys")) (PySem.Value.str (Str.ofString "lookup_keys") 439) (PySem.Value.ref 191)), (PySem.DictEntry.mk (PySem.PyData.keyHash P (Str.ofString "remapped")) (PySem.Value.str (Str.ofString "remapped") 449) (PySem.Value.ref 198)), (PySem.DictEntry.mk (PySem.PyData.keyHash P (Str.ofString "minor_maps")) (PySem.Value.str (Str.ofString "minor_maps") 457) (PySem.Value.ref 203))] 34) #[])
noncomputable def o29_12 (P : PySem.Params) : Obj := (PySem.Obj.mk PySem.Value.none (Option.none ) (PySem.Data.fields #[(PySem.Value.int 1 0), (PySem.Value.int 0 0), (PySem.Value.ref 20), (PySem.Value.int 7 0), (PySem.Value.int 0 0), (PySem.Value.ref 27), (PySem.Value.int 9 0), (PySem.Value.int 0 0), (PySem.Value.ref 34), (PySem.Value.int 11 0), (PySem.Value.int 0 0), (PySem.Value.ref 41), (PySem.Value.int 13 0), (PySem.Value.int 0 0), (PySem.Value.ref 48), (PySem.Value.int 21 0), (PySem.Value.int 0 0), (PySem.Value.ref 55), (PySem.Value.int 27 0), (PySem.Value.int 0 0), (PySem.Value.ref 75), (PySem.Value.int 51 0), (PySem.Value.int 0 0), (PySem.Value.ref 132), (PySem.Value.int 53 0), (PySem.Value.int 0 0), (PySem.Value.ref 139), (PySem.Value.int 59 0), (PySem.Value.int 0 0), (PySem.Value.ref 144), (PySem.Value.int 68 0), (PySem.Value.int 0 0), (PySem.Value.ref 149), (PySem.Value.int 70 0), (PySem.Value.int 0 0), (PySem.Value.ref 154), (PySem.Value.int 72 0), (PySem.Value.int 0 0), (PySem.Value.ref 161), (PySem.Value.int 77 0), (PySem.Value.int 0 0), (PySem.Value.ref 168), (PySem.Value.int 85 0), (PySem.Value.int 0 0), (PySem.Value.ref 175), (PySem.Value.int 90 0), (PySem.Value.int 0 0), (PySem.Value.ref 182), (PySem.Value.int 99 0), (PySem.Value.int 0 0), (PySem.Value.ref 190), (PySem.Value.int 110 0), (PySem.Value.int 0 0), (PySem.Value.ref 197), (PySem.Value.int 114 0), (PySem.Value.int 0 0), (PySem.Value.ref 202)]) #[])
noncomputable def oF_2 (P : PySem.Params) : Obj := (PySem.Obj.mk PySem.Value.none (Option.none ) (PySem.Data.dict #[(PySem.DictEntry.mk (PySem.PyData.keyHash P (Str.ofString "type.__subclasses__.Exception.0")) (PySem.Value.str (Str.ofString "type.__subclasses__.Exception.0") 261) (PySem.Value.int 66 0)), (PySem.DictEntry.mk (PySem.PyData.keyHash P (Str.ofString "type.__subclasses__.Exception.n")) (PySem.Value.str (Str.ofString "type.__subclasses__.Exception.n") 262) (PySem.Value.int 1 0))] 2) #[])
noncomputable def oF_3 (P : PySem.Params) : Obj := (PySem.Obj.mk (PySem.Value.type "dict") (Option.none ) (PySem.Data.dict #[(PySem.DictEntry.mk (PySem.PyData.keyHash P (Str.ofString "__name__")) (PySem.Value.str (Str.ofString "__name__") 165) (PySem.Value.str (Str.ofString "law_ok0053_01") 510)), (PySem.DictEntry.mk (PySem.PyData.keyHash P (Str.ofString "__doc__")) (PySem.Value.str (Str.ofString "__doc__") 166) PySem.Value.none), (PySem.DictEntry.mk (PySem.PyData.keyHash P (Str.ofString "__package__")) (PySem.Value.str (Str.ofString "__package__") 167) PySem.Value.none), (PySem.DictEntry.mk (PySem.PyData.keyHash P (Str.ofString "__loader__")) (PySem.Value.str (Str.ofString "__loader__") 168) (PySem.Value.builtin "__main__.__loader__#opaque")), (PySem.DictEntry.mk (PySem.PyData.keyHash P (Str.ofString "__spec__")) (PySem.Value.str (Str.ofString "__spec__") 169) PySem.Value.none), (PySem.DictEntry.mk (PySem.PyData.keyHash P (Str.ofString "__annotations__")) (PySem.Value.str (Str.ofString "__annotations__") 170) (PySem.Value.ref 6)), (PySem.DictEntry.mk (PySem.PyData.keyHash P (Str.ofString "__builtins__")) (PySem.Value.str (Str.ofString "__builtins__") 171) (PySem.Value.ref 4)), (PySem.DictEntry.mk (PySem.PyData.keyHash P (Str.ofString "__file__")) (PySem.Value.str (Str.ofString "__file__") 173) (PySem.Value.str (Str.ofString "/claim/cut.py") 172)), (PySem.DictEntry.mk (PySem.PyData.keyHash P (Str.ofString "__cached__")) (PySem.Value.str (Str.ofString "__cached__") 174) PySem.Value.none), (PySem.DictEntry.mk (PySem.PyData.keyHash P (Str.ofString "_wall")) (PySem.Value.str (Str.ofString "_wall") 193) (PySem.Value.ref 21)), (PySem.DictEntry.mk (PySem.PyData.keyHash P (Str.ofString "META")) (PySem.Value.str (Str.ofString "META") 199) (PySem.Value.int 134217728 198)), (PySem.DictEntry.mk (PySem.PyData.keyHash P (Str.ofString "ESCAPE")) (PySem.Value.str (Str.ofString "ESCAPE") 201) (PySem.Value.int 27 200)), (PySem.DictEntry.mk (PySem.PyData.keyHash P (Str.ofString "is_sign")) (PySem.Value.str (Str.ofString "is_sign") 208) (PySem.Value.ref 28)), (PySem.DictEntry.mk (PySem.PyData.keyHash P (Str.ofString "has_meta")) (PySem.Value.str (Str.ofString "has_meta") 215) (PySem.Value.ref 35)), (PySem.DictEntry.mk (PySem.PyData.keyHash P (Str.ofString "without_meta")) (PySem.Value.str (Str.ofString "without_meta") 222) (PySem.Value.ref 42)), (PySem.DictEntry.mk (PySem.PyData.keyHash P (Str.ofString "spread_meta")) (PySem.Value.str (Str.ofString "spread_meta") 231) (PySem.Value.ref 49)), (PySem.DictEntry.mk (PySem.PyData.keyHash P (Str.ofString "LispSignal")) (PySem.Value.str (Str.ofString "LispSignal") 264) (PySem.Value.ref 66)), (PySem.DictEntry.mk (PySem.PyData.keyHash P (Str.ofString "Keymap")) (PySem.Value.str (Str.ofString "Keymap") 341) (PySem.Value.ref 122)), (PySem.DictEntry.mk (PySem.PyData.keyHash P (Str.ofString "is_keymap")) (PySem.Value.str (Str.ofString "is_keymap") 348) (PySem.Value.ref 133)), (PySem.DictEntry.mk (PySem.PyData.keyHash P (Str.ofString "chain_of")) (PySem.Value.str (Str.ofString "chain_of") 356) (PySem.Value.ref 140)), (PySem.DictEntry.mk (PySem.PyData.keyHash P (Str.ofString "set_parent")) (PySem.Value.str (Str.ofString "set_parent") 362) (PySem.Value.ref 145)), (PySem.DictEntry.mk (PySem.PyData.keyHash P (Str.ofString "NONE")) (PySem.Value.str (Str.ofString "NONE") 366) (PySem.Value.str (Str.ofString "none") 365)), (PySem.DictEntry.mk (PySem.PyData.keyHash P (Str.ofString "PREFIX")) (PySem.Value.str (Str.ofString "PREFIX") 368) (PySem.Value.str (Str.ofString "prefix") 367)), (PySem.DictEntry.mk (PySem.PyData.keyHash P (Str.ofString "BOUND")) (PySem.Value.str (Str.ofString "BOUND") 370) (PySem.Value.str (Str.ofString "bound") 369)), (PySem.DictEntry.mk (PySem.PyData.keyHash P (Str.ofString "LONG")) (PySem.Value.str (Str.ofString "LONG") 372) (PySem.Value.str (Str.ofString "long") 371)), (PySem.DictEntry.mk (PySem.PyData.keyHash P (Str.ofString "rows_along")) (PySem.Value.str (Str.ofString "rows_along") 378) (PySem.Value.ref 150)), (PySem.DictEntry.mk (PySem.PyData.keyHash P (Str.ofString "defaults_along")) (PySem.Value.str (Str.ofString "defaults_along") 384) (PySem.Value.ref 155)), (PySem.DictEntry.mk (PySem.PyData.keyHash P (Str.ofString "bindings_in")) (PySem.Value.str (Str.ofString "bindings_in") 394) (PySem.Value.ref 162)), (PySem.DictEntry.mk (PySem.PyData.keyHash P (Str.ofString "joined")) (PySem.Value.str (Str.ofString "joined") 403) (PySem.Value.ref 169)), (PySem.DictEntry.mk (PySem.PyData.keyHash P (Str.ofString "first_in")) (PySem.Value.str (Str.ofString "first_in") 413) (PySem.Value.ref 176)), (PySem.DictEntry.mk (PySem.PyData.keyHash P (Str.ofString "found_in")) (PySem.Value.str (Str.ofString "found_in") 425) (PySem.Value.ref 183)), (PySem.DictEntry.mk (PySem.PyData.keyHash P (Str.ofString "lookup_keys")) (PySem.Value.str (Str.ofString "lookup_keys") 439) (PySem.Value.ref 191)), (PySem.DictEntry.mk (PySem.PyData.keyHash P (Str.ofString "remapped")) (PySem.Value.str (Str.ofString "remapped") 449) (PySem.Value.ref 198)), (PySem.DictEntry.mk (PySem.PyData.keyHash P (Str.ofString "minor_maps")) (PySem.Value.str (Str.ofString "minor_maps") 457) (PySem.Value.ref 203)), (PySem.DictEntry.mk (PySem.PyData.keyHash P (Str.ofString "active_maps")) (PySem.Value.str (Str.ofString "active_maps") 470) (PySem.Value.ref 210)), (PySem.DictEntry.mk (PySem.PyData.keyHash P (Str.ofString "ActiveKeys")) (PySem.Value.str (Str.ofString "ActiveKeys") 509) (PySem.Value.ref 234)), (PySem.DictEntry.mk (PySem.PyData.keyHash P (Str.ofString "_law_draw")) (PySem.Value.str (Str.ofString "_law_draw") 519) (PySem.Value.ref 245)), (PySem.DictEntry.mk (PySem.PyData.keyHash P (Str.ofString "_law_map")) (PySem.Value.str (Str.ofString "_law_map") 534) (PySem.Value.ref 252)), (PySem.DictEntry.mk (PySem.PyData.keyHash P (Str.ofString "_law_chain")) (PySem.Value.str (Str.ofString "_law_chain") 542) (PySem.Value.ref 259)), (PySem.DictEntry.mk (PySem.PyData.keyHash P (Str.ofString "_law_one")) (PySem.Value.str (Str.ofString "_law_one") 548) (PySem.Value.ref 264)), (PySem.DictEntry.mk (PySem.PyData.keyHash P (Str.ofString "_law_found")) (PySem.Value.str (Str.ofString "_law_found") 563) (PySem.Value.ref 271)), (PySem.DictEntry.mk (PySem.PyData.keyHash P (Str.ofString "_law_due")) (PySem.Value.str (Str.ofString "_law_due") 573) (PySem.Value.ref 278)), (PySem.DictEntry.mk (PySem.PyData.keyHash P (Str.ofString "law")) (PySem.Value.str (Str.ofString "law") 579) (PySem.Value.ref 283))] 43) #[])
noncomputable def oF_12 (P : PySem.Params) : Obj := (PySem.Obj.mk PySem.Value.none (Option.none ) (PySem.Data.fields #[(PySem.Value.int 1 0), (PySem.Value.int 0 0), (PySem.Value.ref 20), (PySem.Value.int 7 0), (PySem.Value.int 0 0), (PySem.Value.ref 27), (PySem.Value.int 9 0), (PySem.Value.int 0 0), (PySem.Value.ref 34), (PySem.Value.int 11 0), (PySem.Value.int 0 0), (PySem.Value.ref 41), (PySem.Value.int 13 0), (PySem.Value.int 0 0), (PySem.Value.ref 48), (PySem.Value.int 21 0), (PySem.Value.int 0 0), (PySem.Value.ref 55), (PySem.Value.int 27 0), (PySem.Value.int 0 0), (PySem.Value.ref 75), (PySem.Value.int 51 0), (PySem.Value.int 0 0), (PySem.Value.ref 132), (PySem.Value.int 53 0), (PySem.Value.int 0 0), (PySem.Value.ref 139), (PySem.Value.int 59 0), (PySem.Value.int 0 0), (PySem.Value.ref 144), (PySem.Value.int 68 0), (PySem.Value.int 0 0), (PySem.Value.ref 149), (PySem.Value.int 70 0), (PySem.Value.int 0 0), (PySem.Value.ref 154), (PySem.Value.int 72 0), (PySem.Value.int 0 0), (PySem.Value.ref 161), (PySem.Value.int 77 0), (PySem.Value.int 0 0), (PySem.Value.ref 168), (PySem.Value.int 85 0), (PySem.Value.int 0 0), (PySem.Value.ref 175), (PySem.Value.int 90 0), (PySem.Value.int 0 0), (PySem.Value.ref 182), (PySem.Value.int 99 0), (PySem.Value.int 0 0), (PySem.Value.ref 190), (PySem.Value.int 110 0), (PySem.Value.int 0 0), (PySem.Value.ref 197), (PySem.Value.int 114 0), (PySem.Value.int 0 0), (PySem.Value.ref 202), (PySem.Value.int 121 0), (PySem.Value.int 0 0), (PySem.Value.ref 209), (PySem.Value.int 126 0), (PySem.Value.int 0 0), (PySem.Value.ref 216), (PySem.Value.int 139 0), (PySem.Value.int 0 0), (PySem.Value.ref 244), (PySem.Value.int 144 0), (PySem.Value.int 0 0), (PySem.Value.ref 251), (PySem.Value.int 167 0), (PySem.Value.int 0 0), (PySem.Value.ref 258), (PySem.Value.int 173 0), (PySem.Value.int 0 0), (PySem.Value.ref 263), (PySem.Value.int 188 0), (PySem.Value.int 0 0), (PySem.Value.ref 270), (PySem.Value.int 203 0), (PySem.Value.int 0 0), (PySem.Value.ref 277), (PySem.Value.int 211 0), (PySem.Value.int 0 0), (PySem.Value.ref 282)]) #[])

noncomputable abbrev tb9 := treeTable
noncomputable abbrev B9 : List Stmt := behindTheImports RP
noncomputable abbrev env9 : Env := { scope := RP.main.scope, locals := mainNs, globals := mainNs, cells := [], code := .ref 13, frame := some 14 }
noncomputable abbrev c9 : Code := .body B9 env9
noncomputable abbrev q9 : Pos := ⟨0, 0, 0, 0⟩
noncomputable def ann9 : Option Value := some (.ref 6)
/-- a state amid the run -/
noncomputable abbrev S9 (f : PySem.Params → Heap) (k : Nat) (w : World) (os : OsState) : Shared := ⟨f w.params, Array.mk [], boot_drawn, k, os⟩
noncomputable def Hb (P : PySem.Params) : Heap := KH P 15 (o1000_2 P) (o1000_3 P) (o1000_12 P)
noncomputable def H10 (P : PySem.Params) : Heap := KH P 70 (oF_2 P) (o10_3 P) (o10_12 P)
noncomputable def H11 (P : PySem.Params) : Heap := KH P 127 (oF_2 P) (o11_3 P) (o11_12 P)
noncomputable def H29 (P : PySem.Params) : Heap := KH P 204 (oF_2 P) (o29_3 P) (o29_12 P)
noncomputable def Hf (P : PySem.Params) : Heap := KH P 284 (oF_2 P) (oF_3 P) (oF_12 P)
theorem size9 : ∀ w : World, ((boot_heap w.params).isNs mainGlobals && (Array.mk ([] : List GenState)).size == 0, (boot_heap w.params).objs.size, (boot_heap w.params).nsMap mainGlobals "__annotations__") = (true, 11, ann9) := by
  intro w; kernel_rfl
theorem pre9 (w : World) (os : OsState) : topGo treeTable RP w 11 ann9 12 (S9 boot_heap boot_toks w os) (topStub RP) = some (S9 Hb 187 w os, ⟨denote treeTable c9, c9, q9, [topFrame q9]⟩) := by kernel_rfl
theorem block9 (w : World) (os : OsState) : segRun treeTable RP w 11 ann9 1 1 (S9 Hb 187 w os) (blockOf B9 env9 c9 q9 [topFrame q9]) = some (.next, S9 Hb 187 w os, c9, q9) := by kernel_rfl
theorem seg1 (w : World) (os : OsState) : segRun treeTable RP w 11 ann9 1 429 (S9 Hb 187 w os) (piecesOf (B9.take 11) env9 c9 q9 [topFrame q9]) = some (.next, S9 H10 267 w os, c9, ⟨26, 0, 26, 8⟩) := by kernel_rfl
theorem seg2 (w : World) (os : OsState) : segRun treeTable RP w 11 ann9 1 390 (S9 H10 267 w os) (piecesOf ((B9.drop 11).take 1) env9 c9 ⟨26, 0, 26, 8⟩ [topFrame q9]) = some (.next, S9 H11 342 w os, c9, ⟨27, 0, 50, 30⟩) := by kernel_rfl
theorem seg3 (w : World) (os : OsState) : segRun treeTable RP w 11 ann9 1 416 (S9 H11 342 w os) (piecesOf ((B9.drop 12).take 18) env9 c9 ⟨27, 0, 50, 30⟩ [topFrame q9]) = some (.next, S9 H29 458 w os, c9, ⟨114, 0, 120, 16⟩) := by kernel_rfl
theorem seg4 (w : World) (os : OsState) : segRun treeTable RP w 11 ann9 1 519 (S9 H29 458 w os) (piecesOf (B9.drop 30) env9 c9 ⟨114, 0, 120, 16⟩ [topFrame q9]) = some (.next, S9 Hf 580 w os, c9, ⟨211, 0, 236, 15⟩) := by kernel_rfl
theorem fin9 (w : World) (os : OsState) : topRun treeTable RP w 11 ann9 2 (S9 Hf 580 w os) ⟨doneF .next, c9, ⟨211, 0, 236, 15⟩, [topFrame q9]⟩ = some (S9 Hf 580 w os) := by kernel_rfl
theorem eqB9 : B9.take 11 ++ ((B9.drop 11).take 1 ++ ((B9.drop 12).take 18 ++ (B9.drop 30 ++ []))) = B9 := by kernel_rfl
theorem run9 (w : World) (os : OsState) : topRun treeTable RP w 11 ann9 (12 + (1 + (429 + (390 + (416 + (519 + 2)))))) (S9 boot_heap boot_toks w os) (topStub RP) = some (S9 Hf 580 w os) := by
  have k1 := piece_app (seg1 w os) (piece_app (seg2 w os) (piece_app (seg3 w os) (piece_app (rest := []) (seg4 w os) (piece_nil (fin9 w os)))))
  rw [eqB9] at k1
  exact go_top (pre9 w os) (piece_block (block9 w os) k1)
theorem open9 : ∀ w : World, (fencedOpening treeTable RP w 3626).map (fun s => (s.heap, s.gens, s.drawn, s.toks)) = some (boot_heap w.params, Array.mk [], boot_drawn, boot_toks) :=
  boot_open (by kernel_rfl) (by decide) (fun s => by kernel_rfl)
/-- the top's run, by the kernel, in pieces -/
theorem leftO : LeftO RP VW LO (fun s => xlAt VW LV s && recOk (RowW.records PySem.Challenge.rw_ok0053_01.row.toRowW) s) (X.obsZ AS) (X.valZ KK 284 580) 3626 := by
  refine LeftO.of_pieces (H₁ := Hf) (gs₁ := Array.mk []) (d₁ := boot_drawn) (k₁ := 580) open9 size9 run9 (by decide) ?_
  intro w
  kernel_rfl
theorem well : OpenLaw.wellSaid PySem.Challenge.rw_ok0053_01 = true := by kernel_rfl
theorem okTop : (chainsOk VW && opensWell PySem.Challenge.rw_ok0053_01.row.prog && (frees PySem.Challenge.rw_ok0053_01.row.toRowW && PySem.Challenge.rw_ok0053_01.row.within.isEmpty)) = true := by kernel_rfl
theorem k0 (w : World) (h : Heap) : (KK w.params).In h → PySem.Challenge.rw_ok0053_01.prog = PySem.Challenge.rw_ok0053_01.prog := by
  k_fill
  intro _; rfl

noncomputable abbrev LS : List Str := looseW VW [PySem.Str.ofString "META", PySem.Str.ofString "lookup_keys"]

/-- what stands ready for a call -/
inductive Rdy (w : World) (A : Around) (n : Nat) (hp : Heap) (news : List (Addr × Obj)) : Prop
  | mk (dp un : Nat) (gd : Option (List Code)) (env : Env) (outer : List Env) (A₀ : Around) (base h₀ : Heap) (L : Addr) (m : Str → Option Value)
    (mean : ExcName → Option Value) (mg mb : Str → Option Value) (hA : A = ⟨none, dp, some (env :: outer), gd, un⟩) (B : Below A₀ base outer h₀) (F : Fr h₀ L hp m) (X : (KK w.params).In h₀) (T : Top VW LS mean mg mb h₀)
    (hf : env.frame = some L) (hk : env.scope.kind = .function) (N : News h₀ L hp news) (h1 : dp + n ≤ 900) (h2 : un + 8 * n ≤ 9000)

theorem Rdy.le {w : World} {A : Around} {n n' : Nat} {hp : Heap} {news : List (Addr × Obj)} (C : Rdy w A n hp news) (h : n' ≤ n) : Rdy w A n' hp news := by
  obtain ⟨dp, un, gd, env, outer, A₀, base, h₀, L, m, mean, mg, mb, hA, B, F, X, T, hf, hk, N, h1, h2⟩ := C
  exact .mk dp un gd env outer A₀ base h₀ L m mean mg mb hA B F X T hf hk N (by omega) (by omega)
theorem Rdy.handled {w : World} {A : Around} {n : Nat} {hp : Heap} {news : List (Addr × Obj)} (C : Rdy w A n hp news) : A.handled = none := by
  obtain ⟨_, _, _, _, _, _, _, _, _, _, _, _, _, rfl, _⟩ := C
  rfl
theorem Rdy.units {w : World} {A : Around} {n : Nat} {hp : Heap} {news : List (Addr × Obj)} (C : Rdy w A n hp news) : A.units < cLine := by
  obtain ⟨_, un, _, _, _, _, _, _, _, _, _, _, _, rfl, _, _, _, _, _, _, _, _, h2⟩ := C
  show un < 9900
  omega

theorem Rdy.at {w : World} {A : Around} {n : Nat} {hp : Heap} {news : List (Addr × Obj)} (C : Rdy w A n hp news) {p : Addr × Obj} (h : p ∈ news) : hp.get? p.1 = some p.2 := by
  obtain ⟨_, _, _, _, _, _, _, _, _, _, _, _, _, _, _, _, _, _, _, _, N, _⟩ := C
  exact (N _ h).1

/-- all but W stays -/
noncomputable def Keep (W : List Addr) (h h' : Heap) : Prop := ∀ b o, b ∉ W → h.get? b = some o → h'.get? b = some o

theorem Keep.refl (W : List Addr) (h : Heap) : Keep W h h := fun _ _ _ e => e
theorem Keep.trans {W : List Addr} {a b c : Heap} (x : Keep W a b) (y : Keep W b c) : Keep W a c := fun k o n e => y k o n (x k o n e)
theorem Keep.all {a b : Heap} (x : Keep [] a b) : ∀ k o, a.get? k = some o → b.get? k = some o := fun k o e => x k o (by simp) e
theorem Keep.of_all {W : List Addr} {a b : Heap} (x : ∀ k o, a.get? k = some o → b.get? k = some o) : Keep W a b := fun k o _ e => x k o e

theorem keep_of_fr {s : Shared} {news : List (Addr × Obj)} {g h' : Heap} {L' : Addr} {m' : Str → Option Value} (hg : g = hideAll s.heap (news.map (·.1))) (F : Fr g L' h' m') :
    Keep (news.map (·.1)) s.heap h' := fun b o n e => F.keep b o (by rw [hg]; exact hideAll_get _ e n)

theorem pair_eq {g : Program → Option (Str × Arguments × List Stmt × Scope)} {n n' : Str} {a a' : Arguments} {b b' : List Stmt} {c c' : Scope}
    (h : g PW = some (n, a, b, c)) (h' : g PySem.Challenge.pw_ok0053_01 = some (n', a', b', c')) : n = n' ∧ a = a' ∧ b = b' ∧ c = c' := by
  rw [h] at h'
  cases h'
  exact ⟨rfl, rfl, rfl, rfl⟩

section
variable {w : World} {A : Around} {s : Shared} {news : List (Addr × Obj)} {n : Nat}
  {R : Result → Shared → Prop} {name name' qual : Str} {params params' : Arguments} {body body' : List Stmt} {scope scope' : Scope} {dV kV doc pm cdv ct oc : Value} {an od : Option Addr} {osl : Array (Option Value)} {f : Addr} {args : Args} {binds : List (Str × Value)}

theorem enter (g : Program → Option (Str × Arguments × List Stmt × Scope)) (qual' : Str) (C : Rdy w A (n + 1) s.heap news)
    (ho : (KK w.params).lookup f = some ⟨oc, od, .func (fnOf name qual params body scope dV kV doc pm an cdv ct), osl⟩)
    (h1 : g PW = some (name, params, body, scope)) (h2 : g PySem.Challenge.pw_ok0053_01 = some (name', params', body', scope')) (hq : qual = qual')
    (hcd : codeIn (KK w.params) cdv qual = true)
    (hbind : (KK w.params).In s.heap → BindsTo s (fnOf name' qual' params' body' scope' dV kV doc pm an cdv ct) args binds) (hloc : ∀ y ∈ binds, scope'.names.lookup y.1 = some .local)
    (hco : scope'.isCoroutine = false) (hgen : scope'.isGenerator = false) (hk : scope'.kind = .function) (hcell : ∀ x ∈ scope'.names, x.2 ≠ .cell)
    (h : ∀ (A₁ : Around) (g : Heap) (L' : Addr) (h₁ : Heap) (tk : Nat) (mean : ExcName → Option Value) (mg mb : Str → Option Value),
      g = hideAll s.heap (news.map (·.1)) → (∀ (h' : Heap) (m' : Str → Option Value) (nw : List (Addr × Obj)), Fr g L' h' m' → News g L' h' nw → Rdy w A₁ n h' nw) →
      Fr g L' h₁ (fun y => binds.reverse.lookup y) → News g L' h₁ news → (KK w.params).In g → Top VW LS mean mg mb g →
      wpAny (model RP w) A₁ (execs body' (envOf qual' scope' L' f cdv)) (fun fl s' => R (.ok (.ret (match fl with | .ret v => v | _ => .none))) s') (fun _ _ => False) { s with heap := h₁, toks := tk }) :
    codeAny (model RP w) A (.call (.ref f) args) R s := by
  obtain ⟨rfl, rfl, rfl, rfl⟩ := pair_eq h1 h2
  subst hq
  obtain ⟨dp, un, gd, env, outer, A₀, base, h₀, L, m, mean, mg, mb, rfl, B, F, X₀, T, hf, hke, N, hdp, hun⟩ := C
  obtain ⟨FG, BG, st, lv⟩ := groundX (R := R) B F N (A := ⟨none, dp, some (env :: outer), gd, un⟩) rfl hf hke
  refine codeAny_call_def (fd := fnX name qual params body scope [] dV kV doc pm an cdv ct) (body := body) (binds := binds) (show dp < recursionLimit from by show dp < 1000; omega) ((X₀.keeps F.keep) _ _ ho) rfl (T.nolimit.keeps F.keep) (codeRec_of (X₀.keeps F.keep) hcd) rfl (hbind (X₀.keeps F.keep)) hcell hloc (fun h₁ hns hk₁ => ?_) hco hgen hk
  refine wpAny_mono (h _ _ s.heap.objs.size h₁ _ mean mg mb rfl (fun s' m' nw F' N' => .mk (dp + 1) (un + 3) gd _ (env :: outer) _ base _ _ m' mean mg mb rfl BG F' (X₀.keeps st) (T.keeps st) rfl hk N' (by omega) (by omega))
    ⟨hns, fun b o e => hk₁ b o (of_hideAll _ e), Nat.le_of_eq (hideAll_size _ _)⟩
    (fun p hp => ⟨hk₁ _ _ (N p hp).1, Nat.ne_of_lt (Heap.lt_size (N p hp).1), hideAll_none _ (List.mem_map_of_mem hp)⟩) (X₀.keeps st) (T.keeps st)) (fun _ _ x => x) fun _ _ x => x.elim
end
theorem pk0 {a b : Nat} {P : Prop} (h : a < b ∧ P) : a < b := h.1
theorem pk1 {a b c0 : Nat} {P : Prop} (h : c0 < b ∧ a < b ∧ P) : a < b := h.2.1
theorem pk2 {a b c0 c1 : Nat} {P : Prop} (h : c0 < b ∧ c1 < b ∧ a < b ∧ P) : a < b := h.2.2.1
theorem pk3 {a b c0 c1 c2 : Nat} {P : Prop} (h : c0 < b ∧ c1 < b ∧ c2 < b ∧ a < b ∧ P) : a < b := h.2.2.2.1
theorem pk4 {a b c0 c1 c2 c3 : Nat} {P : Prop} (h : c0 < b ∧ c1 < b ∧ c2 < b ∧ c3 < b ∧ a < b ∧ P) : a < b := h.2.2.2.2.1
theorem pk5 {a b c0 c1 c2 c3 c4 : Nat} {P : Prop} (h : c0 < b ∧ c1 < b ∧ c2 < b ∧ c3 < b ∧ c4 < b ∧ a < b ∧ P) : a < b := h.2.2.2.2.2.1
theorem pk6 {a b c0 c1 c2 c3 c4 c5 : Nat} {P : Prop} (h : c0 < b ∧ c1 < b ∧ c2 < b ∧ c3 < b ∧ c4 < b ∧ c5 < b ∧ a < b ∧ P) : a < b := h.2.2.2.2.2.2.1
theorem pk7 {a b c0 c1 c2 c3 c4 c5 c6 : Nat} {P : Prop} (h : c0 < b ∧ c1 < b ∧ c2 < b ∧ c3 < b ∧ c4 < b ∧ c5 < b ∧ c6 < b ∧ a < b ∧ P) : a < b := h.2.2.2.2.2.2.2.1
theorem pk8 {a b c0 c1 c2 c3 c4 c5 c6 c7 : Nat} {P : Prop} (h : c0 < b ∧ c1 < b ∧ c2 < b ∧ c3 < b ∧ c4 < b ∧ c5 < b ∧ c6 < b ∧ c7 < b ∧ a < b ∧ P) : a < b := h.2.2.2.2.2.2.2.2.1
theorem pk9 {a b c0 c1 c2 c3 c4 c5 c6 c7 c8 : Nat} {P : Prop} (h : c0 < b ∧ c1 < b ∧ c2 < b ∧ c3 < b ∧ c4 < b ∧ c5 < b ∧ c6 < b ∧ c7 < b ∧ c8 < b ∧ a < b ∧ P) : a < b := h.2.2.2.2.2.2.2.2.2.1
theorem pk10 {a b c0 c1 c2 c3 c4 c5 c6 c7 c8 c9 : Nat} {P : Prop} (h : c0 < b ∧ c1 < b ∧ c2 < b ∧ c3 < b ∧ c4 < b ∧ c5 < b ∧ c6 < b ∧ c7 < b ∧ c8 < b ∧ c9 < b ∧ a < b ∧ P) : a < b := h.2.2.2.2.2.2.2.2.2.2.1
theorem pk11 {a b c0 c1 c2 c3 c4 c5 c6 c7 c8 c9 c10 : Nat} {P : Prop} (h : c0 < b ∧ c1 < b ∧ c2 < b ∧ c3 < b ∧ c4 < b ∧ c5 < b ∧ c6 < b ∧ c7 < b ∧ c8 < b ∧ c9 < b ∧ c10 < b ∧ a < b ∧ P) : a < b := h.2.2.2.2.2.2.2.2.2.2.2.1
theorem pk12 {a b c0 c1 c2 c3 c4 c5 c6 c7 c8 c9 c10 c11 : Nat} {P : Prop} (h : c0 < b ∧ c1 < b ∧ c2 < b ∧ c3 < b ∧ c4 < b ∧ c5 < b ∧ c6 < b ∧ c7 < b ∧ c8 < b ∧ c9 < b ∧ c10 < b ∧ c11 < b ∧ a < b ∧ P) : a < b := h.2.2.2.2.2.2.2.2.2.2.2.2.1
theorem pr1 {a b c0 : Nat} (h : c0 < b ∧ a < b) : a < b := h.2
theorem pr2 {a b c0 c1 : Nat} (h : c0 < b ∧ c1 < b ∧ a < b) : a < b := h.2.2
theorem pr3 {a b c0 c1 c2 : Nat} (h : c0 < b ∧ c1 < b ∧ c2 < b ∧ a < b) : a < b := h.2.2.2
theorem pr4 {a b c0 c1 c2 c3 : Nat} (h : c0 < b ∧ c1 < b ∧ c2 < b ∧ c3 < b ∧ a < b) : a < b := h.2.2.2.2
theorem pr5 {a b c0 c1 c2 c3 c4 : Nat} (h : c0 < b ∧ c1 < b ∧ c2 < b ∧ c3 < b ∧ c4 < b ∧ a < b) : a < b := h.2.2.2.2.2
theorem pr6 {a b c0 c1 c2 c3 c4 c5 : Nat} (h : c0 < b ∧ c1 < b ∧ c2 < b ∧ c3 < b ∧ c4 < b ∧ c5 < b ∧ a < b) : a < b := h.2.2.2.2.2.2
theorem pr7 {a b c0 c1 c2 c3 c4 c5 c6 : Nat} (h : c0 < b ∧ c1 < b ∧ c2 < b ∧ c3 < b ∧ c4 < b ∧ c5 < b ∧ c6 < b ∧ a < b) : a < b := h.2.2.2.2.2.2.2
theorem pr8 {a b c0 c1 c2 c3 c4 c5 c6 c7 : Nat} (h : c0 < b ∧ c1 < b ∧ c2 < b ∧ c3 < b ∧ c4 < b ∧ c5 < b ∧ c6 < b ∧ c7 < b ∧ a < b) : a < b := h.2.2.2.2.2.2.2.2
theorem pr9 {a b c0 c1 c2 c3 c4 c5 c6 c7 c8 : Nat} (h : c0 < b ∧ c1 < b ∧ c2 < b ∧ c3 < b ∧ c4 < b ∧ c5 < b ∧ c6 < b ∧ c7 < b ∧ c8 < b ∧ a < b) : a < b := h.2.2.2.2.2.2.2.2.2
theorem pr10 {a b c0 c1 c2 c3 c4 c5 c6 c7 c8 c9 : Nat} (h : c0 < b ∧ c1 < b ∧ c2 < b ∧ c3 < b ∧ c4 < b ∧ c5 < b ∧ c6 < b ∧ c7 < b ∧ c8 < b ∧ c9 < b ∧ a < b) : a < b := h.2.2.2.2.2.2.2.2.2.2
theorem pr11 {a b c0 c1 c2 c3 c4 c5 c6 c7 c8 c9 c10 : Nat} (h : c0 < b ∧ c1 < b ∧ c2 < b ∧ c3 < b ∧ c4 < b ∧ c5 < b ∧ c6 < b ∧ c7 < b ∧ c8 < b ∧ c9 < b ∧ c10 < b ∧ a < b) : a < b := h.2.2.2.2.2.2.2.2.2.2.2
theorem pr12 {a b c0 c1 c2 c3 c4 c5 c6 c7 c8 c9 c10 c11 : Nat} (h : c0 < b ∧ c1 < b ∧ c2 < b ∧ c3 < b ∧ c4 < b ∧ c5 < b ∧ c6 < b ∧ c7 < b ∧ c8 < b ∧ c9 < b ∧ c10 < b ∧ c11 < b ∧ a < b) : a < b := h.2.2.2.2.2.2.2.2.2.2.2.2
theorem pkf {a b c : Nat} {P : Prop} (h : c < b ∧ P) (k : c < b ∧ P → a < b) : a < b := k h
theorem ne_lt {a b : Nat} (h : a < b) : a ≠ b := Nat.ne_of_lt h
theorem ne_gt {a b : Nat} (h : b < a) : a ≠ b := Nat.ne_of_gt h
theorem ne_lt2 {a m b : Nat} (h2 : m < b) (h1 : a < m) : a ≠ b := Nat.ne_of_lt (Nat.lt_trans h1 h2)
theorem ne_gt2 {a m b : Nat} (h2 : m < a) (h1 : b < m) : a ≠ b := Nat.ne_of_gt (Nat.lt_trans h1 h2)
theorem ne_lt3 {a m n b : Nat} (h3 : n < b) (h2 : m < n) (h1 : a < m) : a ≠ b := Nat.ne_of_lt (Nat.lt_trans h1 (Nat.lt_trans h2 h3))
theorem ne_gt3 {a m n b : Nat} (h3 : n < a) (h2 : m < n) (h1 : b < m) : a ≠ b := Nat.ne_of_gt (Nat.lt_trans h1 (Nat.lt_trans h2 h3))
theorem ne_ls {a b c : Nat} (h : a < b) (h2 : b ≤ c) : a ≠ c + 1 := Nat.ne_of_lt (Nat.lt_of_lt_of_le h (Nat.le_trans h2 (Nat.le_succ c)))
theorem ne_sl {a b c : Nat} (h : a < b) (h2 : b ≤ c) : c + 1 ≠ a := (ne_ls h h2).symm
theorem nn1 {n : Int} (h : 0 ≤ n) : 0 ≤ n + 1 := by omega
theorem le1 {a n : Int} (h : a ≤ n) : a ≤ n + 1 := by omega
theorem up0 {n a b : Int} (h : n ≤ a) (k : a ≤ b) : n ≤ b := Int.le_trans h k
theorem up1 {n a b : Int} (h : n ≤ a) (k : a + 1 ≤ b) : n + 1 ≤ b := by omega
theorem up2 {n a b : Int} (h : n ≤ a) (k : a + 2 ≤ b) : n + 1 + 1 ≤ b := by omega
theorem end0 {a c : Int} (h : a + 2 ≤ c) : a ≤ c := by omega
theorem end1 {a c : Int} (h : a + 2 ≤ c) : a + 1 ≤ c := by omega
theorem end2 {a c : Int} (h : a + 2 ≤ c) : a + 1 + 1 ≤ c := by omega
/-- a key of a keymap's rows: an int or a str -/
noncomputable abbrev Ky := Int ⊕ Str

noncomputable def kyIs : Ky → Value → Bool
  | .inl k, v => Value.isInt k v
  | .inr x, v => Value.isStrOf x v
theorem kyIs_shape {k : Ky} {v : Value} (h : kyIs k v = true) : (∃ i t, k = .inl i ∧ v = .int i t) ∨ ∃ x t, k = .inr x ∧ v = .str x t := by
  cases k with
  | inl k => obtain ⟨t, rfl⟩ := Value.isInt_shape h; exact .inl ⟨k, t, rfl, rfl⟩
  | inr x => obtain ⟨t, rfl⟩ := Value.isStrOf_shape h; exact .inr ⟨x, t, rfl, rfl⟩
theorem kyIs_int (i : Int) (t : Tok) : kyIs (.inl i) (.int i t) = true := by simp [kyIs, Value.isInt]
theorem kyIs_str (x : Str) (t : Tok) : kyIs (.inr x) (.str x t) = true := by simp [kyIs, Value.isStrOf]

theorem eqBool_int_str {prog : Program} {w : World} {A : Around} {E : Value → Shared → Prop} {s : Shared} {a : Int} {t : Tok} {b : Str} {u : Tok} {Q : Bool → Shared → Prop} (h : Q false s) :
    wpAny (model prog w) A (eqBool (.int a t) (.str b u)) Q E s := by
  unfold eqBool
  refine wpAny_holding ?_
  rw [if_neg (by intro hab; have := eq_of_beq hab; cases this)]
  exact wpAny_bind (EqMixed.eq_int_str (wpAny_truthy_bool h))
theorem eqBool_str_int {prog : Program} {w : World} {A : Around} {E : Value → Shared → Prop} {s : Shared} {a : Str} {t : Tok} {b : Int} {u : Tok} {Q : Bool → Shared → Prop} (h : Q false s) :
    wpAny (model prog w) A (eqBool (.str a t) (.int b u)) Q E s := by
  unfold eqBool
  refine wpAny_holding ?_
  rw [if_neg (by intro hab; have := eq_of_beq hab; cases this)]
  exact wpAny_bind (EqMixed.eq_str_int (wpAny_truthy_bool h))

noncomputable def mix (prog : Program) (w : World) : KeyKind prog w Ky where
  is := kyIs
  hash := fun k => match k with | .inl i => hashInt i | .inr x => hashStr w x
  inj := fun v a b ha hb => by
    rcases kyIs_shape ha with ⟨i, t, rfl, rfl⟩ | ⟨x, t, rfl, rfl⟩ <;> rcases kyIs_shape hb with ⟨j, u, rfl, e⟩ | ⟨y, u, rfl, e⟩ <;> cases e <;> rfl
  byValue := fun k v h => by rcases kyIs_shape h with ⟨i, t, rfl, rfl⟩ | ⟨x, t, rfl, rfl⟩ <;> rfl
  pyHash := fun hv h => by
    rcases kyIs_shape hv with ⟨i, t, rfl, rfl⟩ | ⟨x, t, rfl, rfl⟩
    · exact wpAny_pyHash_int h
    · exact wpAny_pyHash_str h
  eqBool := fun hu hv h => by
    rcases kyIs_shape hu with ⟨i, t, rfl, rfl⟩ | ⟨x, t, rfl, rfl⟩ <;> rcases kyIs_shape hv with ⟨j, u, rfl, rfl⟩ | ⟨y, u, rfl, rfl⟩
    · exact wpAny_eqBool_int (by have e : decide ((Sum.inl i : Ky) = .inl j) = (i == j) := (by by_cases q : i = j <;> simp [q]); rw [← e]; exact h)
    · exact eqBool_int_str (by simpa using h)
    · exact eqBool_str_int (by simpa using h)
    · exact wpAny_eqBool_str (by simpa [Sum.inr.injEq] using h)
  «strs» := fun k x t v h => by
    rcases kyIs_shape h with ⟨i, t', rfl, e⟩ | ⟨y, t', rfl, e⟩
    · cases e
    · cases e
      cases v <;> rfl

/-- what a key is bound to: nothing (a hidden one), a command, a map -/
inductive Bd (α : Type) where
  | nil
  | cmd (c : Str)
  | sub (x : α)
structure Lv (α : Type) where
  rows : Ky → Option (Bd α)
  dflt : Option Str
noncomputable abbrev Ch (α : Type) := List (Lv α)

/-- a relation of heaps, addresses and data that a growing heap keeps -/
noncomputable def Stay {α : Type} (R : Heap → Addr → α → Prop) : Prop := ∀ h h' a x, (∀ b o, h.get? b = some o → h'.get? b = some o) → R h a x → R h' a x

noncomputable def VB {α : Type} (R : Heap → Addr → α → Prop) (h : Heap) : Value → Bd α → Prop
  | .none, .nil => True
  | .str c _, .cmd c' => c = c'
  | .ref a, .sub x => R h a x
  | _, _ => False
noncomputable def VO {α : Type} (R : Heap → Addr → α → Prop) (h : Heap) : Option Value → Option (Bd α) → Prop
  | none, none => True
  | some v, some b => VB R h v b
  | _, _ => False
noncomputable def VD : Value → Option Str → Prop
  | .none, none => True
  | .str c _, some c' => c = c'
  | _, _ => False

theorem VB.ind {α : Type} {R9 : Heap → Addr → α → Prop} {h9 : Heap} {motive : (v : Value) → (b : Bd α) → VB R9 h9 v b → Prop} (none : ∀ y : VB R9 h9 .none .nil, motive .none .nil y) (str : ∀ c t (y : VB R9 h9 (.str c t) (.cmd c)), motive (.str c t) (.cmd c) y) (ref : ∀ a x (hx : VB R9 h9 (.ref a) (.sub x)), motive (.ref a) (.sub x) hx) {v9 : Value} {b9 : Bd α} (x : VB R9 h9 v9 b9) : motive v9 b9 x := by
  cases b9 with
  | nil => cases v9 <;> first | exact none _ | exact False.elim x
  | cmd c' => cases v9 <;> first | (cases x; exact str _ _ _) | exact False.elim x
  | sub y => cases v9 <;> first | exact ref _ _ _ | exact False.elim x
theorem VD.ind {motive : (v : Value) → (o : Option Str) → VD v o → Prop} (none : motive .none .none trivial) (str : ∀ c t, motive (.str c t) (some c) rfl) {v9 : Value} {o9 : Option Str} (x : VD v9 o9) : motive v9 o9 x := by
  cases o9 with
  | none => cases v9 <;> first | exact none | exact False.elim x
  | some c' => cases v9 <;> first | (cases x; exact str _ _) | exact False.elim x
theorem VB.cmd {α : Type} {R : Heap → Addr → α → Prop} {h : Heap} {v : Value} {c : Str} (x : VB R h v (.cmd c)) : ∃ t, v = .str c t := by
  cases v <;> first | (cases x; exact ⟨_, rfl⟩) | exact False.elim x
theorem Heap.MapOf.grow {prog : Program} {w : World} {h h' : Heap} {a : Addr} {f : Ky → Option Value} (x : h.MapOf (mix prog w) a f) (k : ∀ b o, h.get? b = some o → h'.get? b = some o) : h'.MapOf (mix prog w) a f :=
  let ⟨o, es, ep, ho, r⟩ := x; ⟨o, es, ep, k _ _ ho, r⟩
theorem VB.grow {α : Type} {R : Heap → Addr → α → Prop} (st : Stay R) {h h' : Heap} (k : ∀ b o, h.get? b = some o → h'.get? b = some o) : ∀ {v : Value} {b : Bd α}, VB R h v b → VB R h' v b
  | .none, .nil, _ => trivial
  | .str _ _, .cmd _, e => e
  | .ref _, .sub _, r => st _ _ _ _ k r
theorem VO.grow {α : Type} {R : Heap → Addr → α → Prop} (st : Stay R) {h h' : Heap} (k : ∀ b o, h.get? b = some o → h'.get? b = some o) : ∀ {v : Option Value} {b : Option (Bd α)}, VO R h v b → VO R h' v b
  | none, none, _ => trivial
  | some _, some _, r => VB.grow st k r

/-- the dict of a Keymap -/
noncomputable abbrev kmDict (h1 h2 h3 h4 h5 : Int) (t1 t2 t3 t4 t5 tp : Tok) (r : Addr) (b : Bool) (dv pv : Value) : Obj :=
  dictOf [⟨h1, .str (PySem.Str.ofString "prompt") t1, .str (PySem.Str.ofString "") tp⟩, ⟨h2, .str (PySem.Str.ofString "rows") t2, .ref r⟩, ⟨h3, .str (PySem.Str.ofString "has_default") t3, .bool b⟩,
    ⟨h4, .str (PySem.Str.ofString "default") t4, dv⟩, ⟨h5, .str (PySem.Str.ofString "parent") t5, pv⟩] 5

/-- one Keymap, its parent's value pv -/
inductive K1 {α : Type} (w : World) (R : Heap → Addr → α → Prop) (h : Heap) (k : Addr) (pv : Value) (l : Lv α) : Prop
  | mk (dx r : Addr) (h1 h2 h3 h4 h5 : Int) (t1 t2 t3 t4 t5 tp : Tok) (dv : Value) (f : Ky → Option Value)
    (a1 : h.get? k = some (instObj 122 dx)) (a2 : h.get? dx = some (kmDict h1 h2 h3 h4 h5 t1 t2 t3 t4 t5 tp r l.dflt.isSome dv pv))
    (a3 : h.MapOf (mix RP w) r f) (a4 : (r == sysModules) = false) (a5 : ∀ e, VO R h (f e) (l.rows e)) (a6 : VD dv l.dflt)
/-- a chain of them -/
noncomputable def KC {α : Type} (w : World) (R : Heap → Addr → α → Prop) (h : Heap) (k : Addr) : Ch α → Prop
  | [l] => K1 w R h k .none l
  | [l, l2] => ∃ k2, K1 w R h k (.ref k2) l ∧ K1 w R h k2 .none l2
  | _ => False

theorem K1.grow {α : Type} {w : World} {R : Heap → Addr → α → Prop} (st : Stay R) {h h' : Heap} (k : ∀ b o, h.get? b = some o → h'.get? b = some o) {a : Addr} {pv : Value} {l : Lv α} (x : K1 w R h a pv l) : K1 w R h' a pv l := by
  obtain ⟨dx, r, h1, h2, h3, h4, h5, t1, t2, t3, t4, t5, tp, dv, f, a1, a2, a3, a4, a5, a6⟩ := x
  exact .mk dx r h1 h2 h3 h4 h5 t1 t2 t3 t4 t5 tp dv f (k _ _ a1) (k _ _ a2) (Heap.MapOf.grow a3 k) a4 (fun e => VO.grow st k (a5 e)) a6
theorem KC.stay {α : Type} {w : World} {R : Heap → Addr → α → Prop} (st : Stay R) : Stay (KC w R) := by
  intro h h' a x k r
  match x, r with
  | [l], r => exact K1.grow st k r
  | [l, l2], ⟨k2, r1, r2⟩ => exact ⟨k2, K1.grow st k r1, K1.grow st k r2⟩

/-- one of the law's own dicts -/
inductive O1 {α : Type} (w : World) (R : Heap → Addr → α → Prop) (h : Heap) (o : Addr) (pv : Value) (l : Lv α) : Prop
  | mk (ro : Addr) (dv : Value) (g f : Ky → Option Value) (a1 : h.MapOf (mix RP w) o g) (a2 : (o == sysModules) = false) (a3 : g (.inr (PySem.Str.ofString "rows")) = some (.ref ro)) (a4 : g (.inr (PySem.Str.ofString "default")) = some dv)
    (a5 : g (.inr (PySem.Str.ofString "parent")) = some pv) (a6 : h.MapOf (mix RP w) ro f) (a7 : (ro == sysModules) = false) (a8 : ∀ e, VO R h (f e) (l.rows e)) (a9 : VD dv l.dflt)
noncomputable def OC {α : Type} (w : World) (R : Heap → Addr → α → Prop) (h : Heap) (o : Addr) : Ch α → Prop
  | [l] => O1 w R h o .none l
  | [l, l2] => ∃ o2, O1 w R h o (.ref o2) l ∧ O1 w R h o2 .none l2
  | _ => False
theorem O1.grow {α : Type} {w : World} {R : Heap → Addr → α → Prop} (st : Stay R) {h h' : Heap} (k : ∀ b o, h.get? b = some o → h'.get? b = some o) {a : Addr} {pv : Value} {l : Lv α} (x : O1 w R h a pv l) : O1 w R h' a pv l := by
  obtain ⟨ro, dv, g, f, a1, a2, a3, a4, a5, a6, a7, a8, a9⟩ := x
  exact .mk ro dv g f (Heap.MapOf.grow a1 k) a2 a3 a4 a5 (Heap.MapOf.grow a6 k) a7 (fun e => VO.grow st k (a8 e)) a9
theorem OC.stay {α : Type} {w : World} {R : Heap → Addr → α → Prop} (st : Stay R) : Stay (OC w R) := by
  intro h h' a x k r
  match x, r with
  | [l], r => exact O1.grow st k r
  | [l, l2], ⟨k2, r1, r2⟩ => exact ⟨k2, O1.grow st k r1, O1.grow st k r2⟩

/-- nothing below the lowest level -/
noncomputable def RE : Heap → Addr → Empty → Prop := fun _ _ _ => False
theorem RE.stay : Stay RE := fun _ _ _ _ _ r => r

/-- a list of references, each of them a datum's -/
noncomputable def Refs {α : Type} (R : Heap → Addr → α → Prop) (h : Heap) : List Value → List α → Prop
  | [], [] => True
  | v :: vs, x :: xs => (∃ a, v = .ref a ∧ R h a x) ∧ Refs R h vs xs
  | _, _ => False
theorem Refs.grow {α : Type} {R : Heap → Addr → α → Prop} (st : Stay R) {h h' : Heap} (k : ∀ b o, h.get? b = some o → h'.get? b = some o) : ∀ {vs : List Value} {xs : List α}, Refs R h vs xs → Refs R h' vs xs
  | [], [], _ => trivial
  | _ :: _, _ :: _, ⟨⟨a, e, r⟩, t⟩ => ⟨⟨a, e, st _ _ _ _ k r⟩, Refs.grow st k t⟩
theorem Refs.length {α : Type} {R : Heap → Addr → α → Prop} {h : Heap} : ∀ {vs : List Value} {xs : List α}, Refs R h vs xs → vs.length = xs.length
  | [], [], _ => rfl
  | _ :: _, _ :: _, ⟨_, t⟩ => by simp [Refs.length t]
theorem Refs.append {α : Type} {R : Heap → Addr → α → Prop} {h : Heap} : ∀ {vs : List Value} {xs : List α} {us : List Value} {ys : List α}, Refs R h vs xs → Refs R h us ys → Refs R h (vs ++ us) (xs ++ ys)
  | [], [], _, _, _, r => r
  | _ :: _, _ :: _, _, _, ⟨e, t⟩, r => ⟨e, Refs.append t r⟩
theorem Refs.get {α : Type} {R : Heap → Addr → α → Prop} {h : Heap} : ∀ {vs : List Value} {xs : List α} {i : Nat} {v : Value}, Refs R h vs xs → vs[i]? = some v → ∃ a x, v = .ref a ∧ xs[i]? = some x ∧ R h a x
  | [], _, i, v, _, e => by simp at e
  | _ :: _, x :: xs, 0, v, ⟨⟨a, e, r⟩, _⟩, q => by simp at q; subst q; exact ⟨a, x, e, by simp, r⟩
  | _ :: _, x :: xs, i + 1, v, ⟨_, t⟩, q => by simpa using Refs.get t (by simpa using q)

/-- bindings in a row: values and what they are -/
noncomputable def Vals {α : Type} (R : Heap → Addr → α → Prop) (h : Heap) : List Value → List (Bd α) → Prop
  | [], [] => True
  | v :: vs, x :: xs => VB R h v x ∧ Vals R h vs xs
  | _, _ => False
theorem Vals.grow {α : Type} {R : Heap → Addr → α → Prop} (st : Stay R) {h h' : Heap} (k : ∀ b o, h.get? b = some o → h'.get? b = some o) : ∀ {vs : List Value} {xs : List (Bd α)}, Vals R h vs xs → Vals R h' vs xs
  | [], [], _ => trivial
  | _ :: _, _ :: _, ⟨e, t⟩ => ⟨VB.grow st k e, Vals.grow st k t⟩
theorem Vals.length {α : Type} {R : Heap → Addr → α → Prop} {h : Heap} : ∀ {vs : List Value} {xs : List (Bd α)}, Vals R h vs xs → vs.length = xs.length
  | [], [], _ => rfl
  | _ :: _, _ :: _, ⟨_, t⟩ => by simp [Vals.length t]
theorem Vals.snoc {α : Type} {R : Heap → Addr → α → Prop} {h : Heap} {v : Value} {b : Bd α} (e : VB R h v b) : ∀ {vs : List Value} {xs : List (Bd α)}, Vals R h vs xs → Vals R h (vs ++ [v]) (xs ++ [b])
  | [], [], _ => ⟨e, trivial⟩
  | _ :: _, _ :: _, ⟨e', t⟩ => ⟨e', Vals.snoc e t⟩
theorem Vals.get {α : Type} {R : Heap → Addr → α → Prop} {h : Heap} : ∀ {vs : List Value} {xs : List (Bd α)} {i : Nat} {v : Value}, Vals R h vs xs → vs[i]? = some v → ∃ x, xs[i]? = some x ∧ VB R h v x
  | [], _, i, v, _, e => by simp at e
  | _ :: _, x :: xs, 0, v, ⟨e, _⟩, q => by simp at q; subst q; exact ⟨x, by simp, e⟩
  | _ :: _, x :: xs, i + 1, v, ⟨_, t⟩, q => by simpa using Vals.get t (by simpa using q)

/-! what is asked, in plain words -/
inductive Res (α : Type) where
  | none
  | cmd (c : Str)
  | maps (xs : List α)
noncomputable def rowsOf {α : Type} (ch : Ch α) (e : Ky) : List (Bd α) := ch.filterMap fun l => l.rows e
noncomputable def dfltsOf {α : Type} (ch : Ch α) : List Str := ch.filterMap fun l => l.dflt
noncomputable def bindsOf {α : Type} (ch : Ch α) (e : Ky) (td : Bool) : List (Bd α) := match rowsOf ch e with
  | [] => if td then ((dfltsOf ch).take 1).map .cmd else []
  | b :: r => b :: r
noncomputable def subsOf {α : Type} : List (Bd α) → List α
  | [] => []
  | .sub x :: r => x :: subsOf r
  | .cmd _ :: _ => []
  | .nil :: r => subsOf r
noncomputable def joinOf {α : Type} : List (Bd α) → Res α
  | [] => .none
  | .nil :: _ => .none
  | .cmd c :: _ => .cmd c
  | .sub x :: r => .maps (x :: subsOf r)
noncomputable def firstOf {α : Type} (ch : Ch α) (e : Ky) (td : Bool) : Res α := joinOf (bindsOf ch e td)
noncomputable def foundOf {α : Type} (e : Ky) (td : Bool) : List (Ch α) → List α → Res α
  | [], [] => .none
  | [], x :: acc => .maps (x :: acc)
  | ch :: r, acc => match firstOf ch e td with
    | .none => foundOf e td r acc
    | .maps xs => foundOf e td r (acc ++ xs)
    | .cmd c => match acc with
      | [] => .cmd c
      | x :: acc => .maps (x :: acc)

noncomputable def joinGo {α : Type} : List α → List (Bd α) → Res α
  | [], [] => .none
  | x :: acc, [] => .maps (x :: acc)
  | acc, .sub x :: r => joinGo (acc ++ [x]) r
  | acc, .nil :: r => joinGo acc r
  | [], .cmd c :: _ => .cmd c
  | x :: acc, .cmd _ :: _ => .maps (x :: acc)
theorem joinGo_subs {α : Type} : ∀ (r : List (Bd α)) (x : α) (acc : List α), joinGo (x :: acc) r = .maps (x :: acc ++ subsOf r)
  | [], x, acc => by simp [joinGo, subsOf]
  | .sub y :: r, x, acc => by
    rw [joinGo, subsOf, List.cons_append, joinGo_subs r x (acc ++ [y])]
    simp
  | .nil :: r, x, acc => by rw [joinGo, subsOf, joinGo_subs r x acc]
  | .cmd _ :: _, x, acc => by simp [joinGo, subsOf]
theorem joinGo_eq {α : Type} (b : Bd α) (r : List (Bd α)) (h : b ≠ .nil) : joinGo [] (b :: r) = joinOf (b :: r) := by
  cases b with
  | nil => exact absurd rfl h
  | cmd c => rfl
  | sub x => rw [joinGo, List.nil_append, joinGo_subs]; rfl
/-- a told value -/
inductive RV {α : Type} (RR : Heap → Addr → α → Prop) (g h h' : Heap) (v : Value) (r : Res α) : Prop
  | none (e1 : v = .none) (e2 : r = .none)
  | cmd (c : Str) (t : Tok) (e1 : v = .str c t) (e2 : r = .cmd c)
  | maps (l : Addr) (vs : Array Value) (ep : Nat) (x : α) (xs : List α) (e1 : v = .ref l) (e2 : r = .maps (x :: xs)) (h1 : h'.get? l = some (PySem.W.listOf vs ep)) (h2 : h.get? l = none) (h3 : Refs RR g vs.toList (x :: xs))
/-- the data are Keymaps -/
noncomputable def Inst {α : Type} (RR : Heap → Addr → α → Prop) : Prop := ∀ h a x, RR h a x → ∃ dx es n, h.get? a = some (instObj 122 dx) ∧ h.get? dx = some (dictOf es n)
theorem KC.inst {α : Type} {w : World} {R : Heap → Addr → α → Prop} : Inst (KC w R) := by
  intro h a x r
  match x, r with
  | [l], .mk dx _ _ _ _ _ _ _ _ _ _ _ _ _ _ a1 a2 _ _ _ _ => exact ⟨dx, _, _, a1, a2⟩
  | [l, l2], ⟨_, .mk dx _ _ _ _ _ _ _ _ _ _ _ _ _ _ a1 a2 _ _ _ _, _⟩ => exact ⟨dx, _, _, a1, a2⟩
theorem RE.inst : Inst RE := fun _ _ _ r => r.elim
noncomputable def isSub {α : Type} : Bd α → Bool
  | .sub _ => true
  | _ => false
theorem go_nil {α : Type} (xs : List α) (r : List (Bd α)) : joinGo xs (.nil :: r) = joinGo xs r := by cases xs <;> rfl
theorem go_sub {α : Type} (xs : List α) (x : α) (r : List (Bd α)) : joinGo xs (.sub x :: r) = joinGo (xs ++ [x]) r := by cases xs <;> rfl
theorem refs_none {α : Type} {RR : Heap → Addr → α → Prop} {g : Heap} {vs : Array Value} {xs : List α} (h : Refs RR g vs.toList xs) (q : (vs.size == 0) = true) : xs = [] := by
  have := h.length
  rw [Array.length_toList, beq_iff_eq.mp q] at this
  exact List.length_eq_zero_iff.mp this.symm
theorem refs_some {α : Type} {RR : Heap → Addr → α → Prop} {g : Heap} {vs : Array Value} {xs : List α} (h : Refs RR g vs.toList xs) (q : (vs.size == 0) = false) : ∃ x r, xs = x :: r := by
  cases xs with
  | nil =>
    have := h.length
    rw [Array.length_toList] at this
    rw [this] at q
    exact absurd q (by simp)
  | cons x r => exact ⟨x, r, rfl⟩
theorem drop_at {β : Type} {bs : List β} {i : Nat} {b : β} (h : bs[i]? = some b) : bs.drop i = b :: bs.drop (i + 1) := by
  obtain ⟨hlt, rfl⟩ := List.getElem?_eq_some_iff.mp h
  exact List.drop_eq_getElem_cons hlt
noncomputable def isNil {α : Type} : Bd α → Bool
  | .nil => true
  | _ => false
theorem Vals.cons {α : Type} {RR : Heap → Addr → α → Prop} {h : Heap} {u : Value} {us : List Value} {bs : List (Bd α)} (x : Vals RR h (u :: us) bs) : ∃ b r, bs = b :: r ∧ VB RR h u b ∧ Vals RR h us r := by
  cases bs with
  | nil => exact x.elim
  | cons b r => exact ⟨b, r, rfl, x.1, x.2⟩
theorem binds_len {α : Type} (ch : Ch α) (e : Ky) (td : Bool) : (bindsOf ch e td).length ≤ ch.length := by
  have h1 : (rowsOf ch e).length ≤ ch.length := List.length_filterMap_le _ _
  have h2 : (dfltsOf ch).length ≤ ch.length := List.length_filterMap_le _ _
  unfold bindsOf
  cases q : rowsOf ch e with
  | nil => cases td <;> simp; omega
  | cons b r => rw [q] at h1; exact h1
theorem RV.weak {α : Type} {RR : Heap → Addr → α → Prop} {g h₀ h h' : Heap} {v : Value} {r : Res α} (x : RV RR g h h' v r) (k : ∀ b o, h₀.get? b = some o → h.get? b = some o) : RV RR g h₀ h' v r := by
  cases x with
  | none a b => exact .none a b
  | cmd c t a b => exact .cmd c t a b
  | maps l vs ep x xs a b h1 h2 h3 =>
    refine .maps l vs ep x xs a b h1 ?_ h3
    cases q : h₀.get? l with
    | none => rfl
    | some o => have := k _ _ q; rw [h2] at this; cases this
theorem subs_len {α : Type} : ∀ bs : List (Bd α), (subsOf bs).length ≤ bs.length
  | [] => Nat.le_refl _
  | .sub x :: r => Nat.succ_le_succ (subs_len r)
  | .cmd _ :: _ => Nat.zero_le _
  | .nil :: r => Nat.le_succ_of_le (subs_len r)
theorem first_len {α : Type} {ch : Ch α} {e : Ky} {td : Bool} {xs : List α} (h : firstOf ch e td = .maps xs) : xs.length ≤ ch.length := by
  have h1 := binds_len ch e td
  unfold firstOf at h
  cases q : bindsOf ch e td with
  | nil => rw [q] at h; cases h
  | cons b r =>
    rw [q] at h h1
    cases b with
    | nil => cases h
    | cmd c => cases h
    | sub x =>
      cases h
      exact Nat.le_trans (Nat.succ_le_succ (subs_len r)) h1
theorem ext_ok {a b : Nat} (h1 : a ≤ 16000000) (h2 : b ≤ 2) : a + b ≤ sizeLine := by rw [sizeLine_eq]; omega
theorem refs_ne {α : Type} {RR : Heap → Addr → α → Prop} {g : Heap} {vs : Array Value} {x : α} {xs : List α} (h : Refs RR g vs.toList (x :: xs)) : vs.toList.length ≠ 0 := by rw [h.length]; exact Nat.succ_ne_zero _
section
variable {α : Type} {e : Ky} {td : Bool} {ch : Ch α} {r : List (Ch α)}
theorem fs_none {acc : List α} (h : firstOf ch e td = .none) : foundOf e td (ch :: r) acc = foundOf e td r acc := by cases acc <;> rw [foundOf, h]
theorem fs_maps {acc xs : List α} (h : firstOf ch e td = .maps xs) : foundOf e td (ch :: r) acc = foundOf e td r (acc ++ xs) := by cases acc <;> rw [foundOf, h]
theorem fs_cmd0 {c : Str} (h : firstOf ch e td = .cmd c) : foundOf e td (ch :: r) [] = .cmd c := by rw [foundOf, h]
theorem fs_cmd1 {c : Str} {x : α} {acc : List α} (h : firstOf ch e td = .cmd c) : foundOf e td (ch :: r) (x :: acc) = .maps (x :: acc) := by rw [foundOf, h]
end

theorem found_len {α : Type} {e : Ky} {td : Bool} : ∀ {chs : List (Ch α)} {acc xs : List α}, (∀ ch ∈ chs, ch.length ≤ 2) → foundOf e td chs acc = .maps xs → xs.length ≤ acc.length + 2 * chs.length
  | [], [], _, _, h => by cases h
  | [], x :: acc, _, _, h => by cases h; simp
  | ch :: r, acc, xs, hc, h => by
    have hr : ∀ c ∈ r, c.length ≤ 2 := fun c m => hc c (List.mem_cons_of_mem _ m)
    have h0 := hc ch (List.mem_cons_self ..)
    cases q : firstOf ch e td with
    | none =>
      rw [fs_none q] at h
      have := found_len hr h
      simp only [List.length_cons]; omega
    | maps ys =>
      rw [fs_maps q] at h
      have h1 := found_len hr h
      have h2 := first_len q
      simp only [List.length_cons, List.length_append] at h1 ⊢; omega
    | cmd c => cases acc with
      | nil => rw [fs_cmd0 q] at h; cases h
      | cons x acc =>
        rw [fs_cmd1 q] at h
        cases h
        simp only [List.length_cons]; omega
/-- what keys come to -/
inductive Out where
  | none
  | pre
  | cmd (c : Str)
noncomputable def out1 {α : Type} (chs : List (Ch α)) (e : Ky) (td : Bool) : Out := match foundOf e td chs [] with
  | .none => .none
  | .cmd c => .cmd c
  | .maps _ => .pre
noncomputable def out2 {α : Type} (chs : List (Ch (Ch α))) (e e2 : Ky) (td : Bool) : Out := match foundOf e td chs [] with
  | .maps xs => out1 xs e2 td
  | _ => .none
noncomputable def remOf {α : Type} (chs : List (Ch (Ch α))) (c : Str) : Str := match out2 chs (.inr (PySem.Str.ofString "remap")) (.inr c) false with
  | .cmd c' => c'
  | _ => c
/-- what is due for what the keys come to -/
noncomputable def dueOf {α : Type} (chs : List (Ch (Ch α))) : Out → Out
  | .cmd c => .cmd (remOf chs c)
  | o => o
theorem nlt {h : Heap} {b : Addr} {o : Obj} (e : h.get? b = some o) : @LT.lt Nat _ b h.objs.size := Heap.lt_size e

/-- a turn's end -/
noncomputable def TEnd (s : Shared) (W : List Addr) (h : Heap) (J : Heap → Prop) (s₅ : Shared) : Prop := ∃ h' tk', s₅ = { s with heap := h', toks := tk' } ∧ Keep W h h' ∧ J h'
theorem TEnd.mk {s : Shared} {W : List Addr} {h h' : Heap} {J : Heap → Prop} {tk' : Nat} (k : Keep W h h') (j : J h') : TEnd s W h J { s with heap := h', toks := tk' } := ⟨h', tk', rfl, k, j⟩

/-- a list comprehension by what holds between its turns; W: what a turn may change -/
structure CompJ (w : World) (A : Around) (env : Env) (scope : Scope) (cl : List (Str × Addr)) (x : Str) (ifs : List Expr) (elt : Expr) (wr W : List Addr) (n : Nat) (P : Nat → Value → Prop)
    (J : Nat → List Value → Heap → Prop) (s₂ : Shared) : Prop where
  old : ∀ b ∈ W, b < s₂.heap.objs.size
  stay : ∀ i ys h h', J i ys h → (∀ (b : Nat) o, b ∉ wr → b < s₂.heap.objs.size ∨ s₂.heap.objs.size + 2 ≤ b → h.get? b = some o → h'.get? b = some o) → J i ys h'
  start : J 0 [] s₂.heap
  turn : ∀ i v ys s₃ m₃ E', (∃ h tk, s₃ = { s₂ with heap := h, toks := tk }) → i < n → P i v → J i ys s₃.heap → s₃.heap.Ns (s₂.heap.objs.size + 1) m₃ → m₃ x = some v →
    (∀ b o, b ∉ wr → b ∉ W → s₂.heap.get? b = some o → s₃.heap.get? b = some o) →
    wpAny (model RP w) A (forIn ifs true fun c r => if r = true then do let ok ← isTrue c (compEnvC scope cl (s₂.heap.objs.size + 1) env) (eval c (compEnvC scope cl (s₂.heap.objs.size + 1) env)); pure (ForInStep.yield ok) else pure (ForInStep.yield r))
      (fun ok s₄ => if ok = true then
          wpAny (model RP w) A (eval elt (compEnvC scope cl (s₂.heap.objs.size + 1) env)) (fun y s₅ => TEnd s₂ W s₃.heap (J (i + 1) (ys ++ [y])) s₅) E' s₄
        else TEnd s₂ W s₃.heap (J (i + 1) ys) s₄) E' s₃

theorem comp_block_J {w : World} {A : Around} {E : Value → Shared → Prop} {env : Env} {elt iter : Expr} {x : Str} {px : Pos} {ifs : List Expr} {scope : Scope} {cl : List (Str × Addr)} {pos : Pos} {s₂ : Shared} {I : Addr} {fp wr W : List Addr} {n : Nat} {P : Nat → Value → Prop}
    {St : Nat → Heap → Prop} {J : Nat → List Value → Heap → Prop} {RR : Value → Addr → Result → Shared → Prop} (Wk : Walks RP w A I fp wr n P St) (hsz : n ≤ sizeLine)
    (hcell : ∀ y ∈ scope.names, y.2 ≠ .cell) (hkind : scope.kind = .function) (hx : scope.names.lookup x = some .local) (hst : St 0 s₂.heap) (hfp : ∀ b ∈ fp, b < s₂.heap.objs.size) (hWf : ∀ b ∈ W, b ∉ fp)
    (hq : CompJ w A env scope cl x ifs elt wr W n P J s₂)
    (hRR : ∀ h' tk m' (ys : List Value) ep, h'.Ns (s₂.heap.objs.size + 1) m' → h'.get? s₂.heap.objs.size = some (PySem.W.listOf ys.toArray ep) → ys.length ≤ n → J n ys h' →
      (∀ b o, b ∉ wr → b ∉ W → s₂.heap.get? b = some o → h'.get? b = some o) → RR (.ref s₂.heap.objs.size) (s₂.heap.objs.size + 1) (.ok .next) { s₂ with heap := h', toks := tk }) :
    wpAny (model RP w) A (newList []) (fun acc s₃ => wpAny (model RP w) A (newFunctionEnv scope env.globals cl [] env.qual none .none (some env)) (fun cenv s₄ =>
      codeAny (model RP w) A (.compStart (.ListComp elt [⟨.Name x px, iter, ifs, 0⟩] scope pos) 0 (.ref I) acc { cenv with scope := relabel scope env }) (RR acc cenv.locals) s₄) E s₃) E s₂ := by
  refine wpAny_newObj_type (wpAny_newFunctionEnv hcell (by intro y hy; simp at hy) (fun h₁ hns₁ hsb₁ => ?_) hkind)
  dsimp only at hns₁ hsb₁ ⊢
  generalize hH2 : s₂.heap.push { cls := .type "list", dict := none, data := .seq ([] : List Value).toArray } = H2 at hns₁ hsb₁ ⊢
  have hC : H2.objs.size = s₂.heap.objs.size + 1 := by rw [← hH2, Heap.size_push]
  rw [hC] at hns₁ hsb₁
  have old : ∀ b o, s₂.heap.get? b = some o → h₁.get? b = some o := fun b o e => hsb₁.extBut b o (by have := nlt e; exact neN (by omega)) (Heap.get?_push_of_some _ (hH2 ▸ Heap.get?_push_of_some _ e))
  have hacc : h₁.get? s₂.heap.objs.size = some (PySem.W.listOf ([] : List Value).toArray 0) := hsb₁.extBut _ _ (neN (by omega)) (Heap.get?_push_of_some _ (hH2 ▸ Heap.get?_push_size _ rfl))
  have hst₁ : St 0 h₁ := Wk.frame _ _ _ hst fun b _ o e => old b o e
  have loop : ∀ s₃ : Shared, s₃ = { s₂ with heap := h₁, toks := s₂.toks + ([] : List (Str × Value)).length } →
      codeAny (model RP w) A (.compLoop (.ListComp elt [⟨.Name x px, iter, ifs, 0⟩] scope pos) 0 (.ref I) (.ref s₂.heap.objs.size) (compEnvC scope cl (s₂.heap.objs.size + 1) env))
        (RR (.ref s₂.heap.objs.size) (s₂.heap.objs.size + 1)) s₃ := by
    rintro s₃ rfl
    refine codeAny_compLoop_tests
      (fun k s' => ∃ h' tk m' i ep, ∃ ys : List Value, s' = { s₂ with heap := h', toks := tk } ∧ St i h' ∧ h'.get? s₂.heap.objs.size = some (PySem.W.listOf ys.toArray ep) ∧ h'.Ns (s₂.heap.objs.size + 1) m' ∧ J i ys h' ∧ ys.length ≤ i ∧ i ≤ n ∧ k = n + 1 - i ∧
        (∀ b o, b ∉ wr → b ∉ W → s₂.heap.get? b = some o → h'.get? b = some o)) ?_ (n + 1)
      ⟨h₁, _, _, 0, 0, [], rfl, hst₁, hacc, hns₁, hq.stay _ _ _ _ hq.start (fun b o _ _ e => old b o e), Nat.zero_le _, Nat.zero_le _, rfl, fun b o _ _ e => old b o e⟩
    rintro k s' ⟨H, tk, m', i, ep, ys, rfl, hst', hacc', hn', hJ, hle, hi, rfl, hk⟩
    have subwr : ∀ b ∈ wr, b < s₂.heap.objs.size := fun b hb => hfp b (Wk.sub b hb)
    have nD : s₂.heap.objs.size ∉ wr := fun hm => Nat.lt_irrefl _ (subwr _ hm)
    have nC : s₂.heap.objs.size + 1 ∉ wr := fun hm => Nat.lt_irrefl _ (Nat.lt_of_succ_lt (subwr _ hm))
    by_cases hlt : i < n
    · refine Wk.item i _ _ _ hlt hst' fun v h₂ tk₂ hPv hst₂ hk₂ => ?_
      refine wpAny_assign_Name (wpAny_storeName_local (lookup_relabel_local hx) (hn'.at' fun o e => hk₂ _ o nC e) (fun h₃ hn₃ hs₃ => ?_) (by simp [compEnvC, relabel, hkind]))
      have hn₃ : h₃.Ns (s₂.heap.objs.size + 1) _ := hn₃
      have hs₃ : Heap.SameBut (s₂.heap.objs.size + 1) h₂ h₃ := hs₃
      have up₃ : ∀ b o, b ∉ wr → b ≠ s₂.heap.objs.size + 1 → H.get? b = some o → h₃.get? b = some o := fun b o hb hc e => hs₃.extBut b o hc (hk₂ b o hb e)
      have hJ₃ : J i ys h₃ := hq.stay _ _ _ _ hJ fun b o hb hlo e => up₃ b o hb (neN (by omega)) e
      have hacc₃ := up₃ _ _ nD (neN (by omega)) hacc'
      have hst₃ : St (i + 1) h₃ := Wk.frame _ _ _ hst₂ fun b hb o e => hs₃.extBut b o (fun q => absurd (hfp b hb) (by rw [q]; exact Nat.not_lt.mpr (by omega))) e
      refine wpAny_mono (hq.turn i v ys { s₂ with heap := h₃, toks := _ } _ _ ⟨_, _, rfl⟩ hlt hPv hJ₃ hn₃ (by simp) (fun b o hb hW e => up₃ b o hb (by have := nlt e; exact neN (by omega)) (hk b o hb hW e))) (fun ok s₄ h₄ => ?_) fun _ _ e => e
      cases ok with
      | false =>
        simp only [Bool.false_eq_true, if_false] at h₄ ⊢
        obtain ⟨h₅, tk₅, rfl, hk₅, hJ₅⟩ := h₄
        have nW : ∀ b : Nat, s₂.heap.objs.size ≤ b → b ∉ W := fun b hb hm => Nat.lt_irrefl _ (Nat.lt_of_lt_of_le (hq.old b hm) hb)
        refine ⟨n + 1 - (i + 1), by omega, h₅, tk₅, _, i + 1, ep, ys, rfl, Wk.frame _ _ _ hst₃ fun b hb o e => hk₅ b o (fun hm => hWf b hm hb) e, hk₅ _ _ (nW _ (Nat.le_refl _)) hacc₃, hn₃.at' fun o e => hk₅ _ o (nW _ (Nat.le_succ _)) e, hJ₅, by omega, hlt, rfl,
          fun b o hb hW e => hk₅ b o hW (up₃ b o hb (by have := nlt e; exact neN (by omega)) (hk b o hb hW e))⟩
      | true =>
        simp only [if_true] at h₄ ⊢
        refine wpAny_mono h₄ (fun y s₅ h₅ => ?_) fun _ _ e => e
        obtain ⟨h₅, tk₅, rfl, hk₅, hJ₅⟩ := h₅
        have nW : ∀ b : Nat, s₂.heap.objs.size ≤ b → b ∉ W := fun b hb hm => Nat.lt_irrefl _ (Nat.lt_of_lt_of_le (hq.old b hm) hb)
        have hacc₅ := hk₅ _ _ (nW _ (Nat.le_refl _)) hacc₃
        have hys : ys.toArray.size ≤ sizeLine := by rw [List.size_toArray]; omega
        refine wpAny_list_append_plain (hsz := hys) ⟨ep, hacc₅⟩ fun h₆ hl₆ hs₆ => ?_
        obtain ⟨ep', hl₆⟩ := hl₆
        refine ⟨n + 1 - (i + 1), by omega, h₆, tk₅, (fun z => if z = x then some v else m' z), i + 1, ep', ys ++ [y], rfl, ?_, ?_, ?_, ?_, by simp; omega, hlt, rfl, ?_⟩
        · exact Wk.frame _ _ _ hst₃ fun b hb o e => hs₆.extBut b o (fun q => absurd (hfp b hb) (by rw [q]; exact Nat.not_lt.mpr (by omega))) (hk₅ b o (fun hm => hWf b hm hb) e)
        · rw [hl₆]; simp [PySem.W.listOf]
        · exact (hn₃.at' fun o e => hk₅ _ o (nW _ (Nat.le_succ _)) e).sameBut hs₆ (neN (by omega))
        · exact hq.stay _ _ _ _ hJ₅ fun b o hb hlo e => hs₆.extBut b o (neN (by omega)) e
        · exact fun b o hb hW e => hs₆.extBut b o (by have := nlt e; exact neN (by omega)) (hk₅ b o hW (up₃ b o hb (by have := nlt e; exact neN (by omega)) (hk b o hb hW e)))
    · have hin : i = n := by omega
      subst hin
      refine Wk.done _ _ _ hst' fun h₂ tk₂ hk₂ => ?_
      exact hRR h₂ tk₂ m' ys ep (hn'.at' fun o e => hk₂ _ o nC e) (hk₂ _ _ nD hacc') hle (hq.stay _ _ _ _ hJ fun b o hb _ e => hk₂ b o hb e) fun b o hb hW e => hk₂ b o hb (hk b o hb hW e)
  have hl := loop _ rfl
  rw [← hC] at hl
  exact codeAny_compStart_list hl (Wk.self 0 _ _ _ hst₁ hl)

/-- what is to be shown of the iterator -/
noncomputable def Blk (w : World) (A : Around) (env : Env) (scope : Scope) (cl : List (Str × Addr)) (x : Str) (ifs : List Expr) (elt : Expr) (Q : Value → Shared → Prop) (it : Value) (s₂ : Shared) : Prop :=
  ∃ I fp wr n P St W J, it = .ref I ∧ Walks RP w A I fp wr n P St ∧ n ≤ sizeLine ∧ St 0 s₂.heap ∧ (∀ b ∈ fp, b < s₂.heap.objs.size) ∧ (∀ b ∈ W, b ∉ fp) ∧
      CompJ w A env scope cl x ifs elt wr W n P J s₂ ∧
      (∀ h' tk (ys : List Value) ep, h'.get? s₂.heap.objs.size = some (PySem.W.listOf ys.toArray ep) → ys.length ≤ n → J n ys h' →
        (∀ b o, b ∉ wr → b ∉ W → s₂.heap.get? b = some o → h'.get? b = some o) → Q (.ref s₂.heap.objs.size) { s₂ with heap := h', toks := tk })

/-- [elt for x in iter if ..], its value -/
theorem comp_J {w : World} {A : Around} {E : Value → Shared → Prop} {env : Env} {elt iter : Expr} {x : Str} {px : Pos} {ifs : List Expr} {scope : Scope} {cl : List (Str × Addr)} {pos : Pos} {s : Shared} {Q : Value → Shared → Prop}
    (hclos : closureFor scope env = pure cl) (hcell : ∀ y ∈ scope.names, y.2 ≠ .cell) (hkind : scope.kind = .function)
    (hnames : ∀ y ∈ scope.names, y.2 = .local → scope.names.lookup y.1 = some .local) (hx : scope.names.lookup x = some .local)
    (hs : ∀ x, foldedSetIterable iter env x = pure x)
    (h : wpAny (model RP w) A (eval iter env) (fun xv s₁ => wpAny (model RP w) A (pyIter xv) (Blk w A env scope cl x ifs elt Q) E s₁) E s) :
    wpAny (model RP w) A (eval (.ListComp elt [⟨.Name x px, iter, ifs, 0⟩] scope pos) env) Q E s := by
  rw [eval_ListComp]
  refine wpAny_comprehension_free (use := none) rfl hs hclos hkind hnames (wpAny_mono h (fun xv s₁ h₁ => wpAny_mono h₁ (fun it s₂ h₂ => ?_) fun _ _ e => e) fun _ _ e => e)
  obtain ⟨I, fp, wr, n, P, St, W, J, rfl, Wk, hsz, hst, hfp, hWf, hq, hQ⟩ := h₂
  refine comp_block_J (RR := fun acc C => compPost (model RP w) A E none Q acc C) Wk hsz hcell hkind hx hst hfp hWf hq ?_
  intro h' tk m' ys ep hn hl hle hJ hk
  refine ⟨m', hn, fun h'' hs'' => ?_⟩
  exact hQ h'' tk ys ep (hs''.extBut _ _ (neN (by omega)) hl) hle (hq.stay _ _ _ _ hJ fun b o _ hlo e => hs''.extBut b o (neN (by omega)) e) fun b o hb hW e => hs''.extBut b o (by have := nlt e; exact neN (by omega)) (hk b o hb hW e)

/-- the block over a list that stands -/
theorem Blk.list {w : World} {A : Around} {E : Value → Shared → Prop} {env : Env} {elt : Expr} {x : Str} {ifs : List Expr} {scope : Scope} {cl : List (Str × Addr)} {s : Shared} {Q : Value → Shared → Prop} {l : Addr} {vs : Array Value} {ep : Nat}
    (hh : A.handled = none) (W : List Addr) (J : Nat → List Value → Heap → Prop) (hl : s.heap.get? l = some (PySem.W.listOf vs ep)) (hsz : vs.size ≤ sizeLine) (hW : ∀ b ∈ W, b < s.heap.objs.size) (hlW : l ∉ W)
    (stay : ∀ i ys h h', J i ys h → (∀ (b : Nat) o, b < s.heap.objs.size ∨ s.heap.objs.size + 3 ≤ b → h.get? b = some o → h'.get? b = some o) → J i ys h') (start : J 0 [] s.heap)
    (turn : ∀ i v ys h tk m₃ E', vs[i]? = some v → J i ys h → h.Ns (s.heap.objs.size + 2) m₃ → m₃ x = some v → Keep W s.heap h →
      wpAny (model RP w) A (forIn ifs true fun c r => if r = true then do let ok ← isTrue c (compEnvC scope cl (s.heap.objs.size + 2) env) (eval c (compEnvC scope cl (s.heap.objs.size + 2) env)); pure (ForInStep.yield ok) else pure (ForInStep.yield r))
        (fun ok s₄ => if ok = true then
            wpAny (model RP w) A (eval elt (compEnvC scope cl (s.heap.objs.size + 2) env)) (fun y s₅ => TEnd s W h (J (i + 1) (ys ++ [y])) s₅) E' s₄
          else TEnd s W h (J (i + 1) ys) s₄) E' { s with heap := h, toks := tk })
    (done : ∀ h' tk (ys : List Value) ep', h'.get? (s.heap.objs.size + 1) = some (PySem.W.listOf ys.toArray ep') → ys.length ≤ vs.size → J vs.size ys h' → Keep W s.heap h' → Q (.ref (s.heap.objs.size + 1)) { s with heap := h', toks := tk }) :
    wpAny (model RP w) A (pyIter (.ref l)) (Blk w A env scope cl x ifs elt Q) E s := by
  have hls : s.heap.IsList l vs := ⟨_, hl, rfl, _, rfl⟩
  have hlt := nlt hl
  have hne : l ≠ s.heap.objs.size := neN (by omega)
  refine wpAny_pyIter_list hls ?_
  have up : ∀ (o : Obj) b x, s.heap.get? b = some x → (s.heap.push o).get? b = some x := fun o b x e => Heap.get?_push_of_some o e
  refine ⟨_, _, _, vs.size, _, _, W, J, rfl, Walks.list (prog := RP) (w := w) hh s.heap.objs.size l hne vs, hsz, ⟨⟨_, Heap.get?_push_size _ rfl, rfl, rfl⟩, hls.at fun o e => up _ _ _ e⟩, ?_, ?_, ?_, ?_⟩
  · intro b hb
    show @LT.lt Nat _ b _
    rw [Heap.size_push]
    rcases List.mem_cons.mp hb with rfl | hb
    · exact Nat.lt_succ_self _
    · rw [List.mem_singleton.mp hb]; omega
  · intro b hb hm
    rcases List.mem_cons.mp hm with rfl | hm
    · exact Nat.lt_irrefl _ (hW _ hb)
    · exact hlW ((List.mem_singleton.mp hm) ▸ hb)
  · refine ⟨?_, ?_, ?_, ?_⟩
    · intro b hb
      show @LT.lt Nat _ b _
      rw [Heap.size_push]
      exact Nat.lt_succ_of_lt (hW b hb)
    · intro i ys h h' hj hk
      refine stay i ys h h' hj fun b o hb e => hk b o ?_ ?_ e
      · intro hm
        have := List.mem_singleton.mp hm
        omega
      · show @LT.lt Nat _ b _ ∨ _
        rw [Heap.size_push]; omega
    · exact stay _ _ _ _ start fun b o _ e => up _ _ _ e
    · intro i v ys s₃ m₃ E' hs₃ hi hP hj hn hm hk
      obtain ⟨h, tk, rfl⟩ := hs₃
      rw [Heap.size_push] at hn ⊢
      exact turn i v ys h tk m₃ E' hP hj hn hm fun b o hb e => hk b o (fun q => absurd (nlt e) (by rw [List.mem_singleton.mp q]; exact Nat.lt_irrefl _)) hb (up _ _ _ e)
  · intro h' tk ys ep' hl' hle hj hk
    rw [Heap.size_push] at hl' ⊢
    exact done h' tk ys ep' hl' hle hj fun b o hb e => hk b o (fun q => absurd (nlt e) (by rw [List.mem_singleton.mp q]; exact Nat.lt_irrefl _)) hb (up _ _ _ e)
section
variable {w : World} {A : Around} {s : Shared} {news : List (Addr × Obj)} {n : Nat}
  {R : Result → Shared → Prop} {name name' qual : Str} {params params' : Arguments} {body body' : List Stmt} {scope scope' : Scope} {dV kV doc pm cdv ct oc : Value} {an od : Option Addr} {osl : Array (Option Value)} {f : Addr} {args : Args} {binds : List (Str × Value)}

/-- as enter, of a def with captured names -/
theorem enterC (g : Program → Option (Str × Arguments × List Stmt × Scope)) (qual' : Str) (C : Rdy w A (n + 1) s.heap news)
    (ho : (KK w.params).lookup f = some ⟨oc, od, .func (fnOf name qual params body scope dV kV doc pm an cdv ct), osl⟩)
    (h1 : g PW = some (name, params, body, scope)) (h2 : g PySem.Challenge.pw_ok0053_01 = some (name', params', body', scope')) (hq : qual = qual')
    (hcd : codeIn (KK w.params) cdv qual = true)
    (hbind : (KK w.params).In s.heap → BindsTo s (fnOf name' qual' params' body' scope' dV kV doc pm an cdv ct) args binds)
    (hkind : (binds.all fun y => scope'.names.lookup y.1 == some .local || scope'.names.lookup y.1 == some .cell) = true)
    (hnd : ((cellsFrom 0 scope'.names []).map (·.1)).Nodup)
    (hco : scope'.isCoroutine = false) (hgen : scope'.isGenerator = false) (hk : scope'.kind = .function)
    (h : ∀ (A₁ : Around) (g : Heap) (L' : Addr) (h₁ : Heap) (tk : Nat) (cells : List (Addr × Obj)) (mean : ExcName → Option Value) (mg mb : Str → Option Value),
      g = hideAll s.heap (news.map (·.1)) → (∀ (h' : Heap) (m' : Str → Option Value) (nw : List (Addr × Obj)), Fr g L' h' m' → News g L' h' nw → Rdy w A₁ n h' nw) →
      Fr g L' h₁ (bindL (envOfC qual' scope' L' f cdv).kindOf binds fun _ => none) → News g L' h₁ (cells ++ news) → CellsAre (bindC (envOfC qual' scope' L' f cdv).kindOf binds fun _ => none) (cellsFrom (L' + 1) scope'.names []) cells →
      (KK w.params).In g → Top VW LS mean mg mb g →
      wpAny (model RP w) A₁ (execs body' (envOfC qual' scope' L' f cdv)) (fun fl s' => R (.ok (.ret (match fl with | .ret v => v | _ => .none))) s') (fun _ _ => False) { s with heap := h₁, toks := tk }) :
    codeAny (model RP w) A (.call (.ref f) args) R s := by
  obtain ⟨rfl, rfl, rfl, rfl⟩ := pair_eq h1 h2
  subst hq
  obtain ⟨dp, un, gd, env, outer, A₀, base, h₀, L, m, mean, mg, mb, rfl, B, F, X₀, T, hf, hke, N, hdp, hun⟩ := C
  obtain ⟨FG, BG, st, lv⟩ := groundX (R := R) B F N (A := ⟨none, dp, some (env :: outer), gd, un⟩) rfl hf hke
  refine codeAny_call_function (show dp < recursionLimit from by show dp < 1000; omega) ((X₀.keeps F.keep) _ _ ho) rfl hco hgen rfl (codeRec_of (X₀.keeps F.keep) hcd) (hbind (X₀.keeps F.keep) _ _ _ _ ?_)
  refine wpAny_newFunctionEnv_cells hk (kindsX hkind _) fun env' he s' x => ?_
  subst he
  refine ⟨(T.nolimit.keeps F.keep).keeps x.toInCall.keep, codeAny_func ?_⟩
  obtain ⟨h₁, tk, rfl, _⟩ := x.done
  have hk₁ := x.toInCall.keep
  obtain ⟨cells, NC, Y⟩ := Cl.news (h₀ := s.heap) (Nat.le_refl _) fun n c hm => ⟨x.cell n c (lookup_of_mem_nodup (cellsFrom_names scope.names 0 (s.heap.objs.size + 1) [] [] rfl ▸ hnd) hm), x.above n c hm⟩
  refine wpAny_mono (h _ _ s.heap.objs.size h₁ tk cells mean mg mb rfl (fun s' m' nw F' N' => .mk (dp + 1) (un + 3) gd _ (env :: outer) _ base _ _ m' mean mg mb rfl BG F' (X₀.keeps st) (T.keeps st) rfl hk N' (by omega) (by omega))
    ⟨x.toInCall.ns, fun b o e => hk₁ b o (of_hideAll _ e), Nat.le_of_eq (hideAll_size _ _)⟩ (fun p hp => ?_) Y (X₀.keeps st) (T.keeps st)) (fun _ _ x => x) fun _ _ x => x.elim
  rcases List.mem_append.mp hp with hp | hp
  · refine ⟨(NC p hp).1, (NC p hp).2.1, ?_⟩
    cases q : (hideAll s.heap (news.map (·.1))).get? p.1 with
    | none => rfl
    | some o => have := of_hideAll _ q; rw [(NC p hp).2.2] at this; cases this
  · exact ⟨hk₁ _ _ (N p hp).1, Nat.ne_of_lt (Heap.lt_size (N p hp).1), hideAll_none _ (List.mem_map_of_mem hp)⟩
end
theorem instAt_g {h₀ h : Heap} {L x C dx : Addr} {m : Str → Option Value} {es : List DictEntry} {n : Nat} (F : Fr h₀ L h m) (h1 : h₀.get? x = some (instObj C dx)) (h2 : h₀.get? dx = some (dictOf es n)) :
    PySem.W.InstAt h x (instObj C dx) C (some (dictOf es n)) := ⟨F.keep _ _ h1, rfl, rfl, F.keep _ _ h2⟩

section
variable {w : World} {A : Around} {E : Value → Shared → Prop} {s : Shared} {h₀ : Heap} {L r : Addr} {m : Str → Option Value} {Q : Value → Shared → Prop} {e : Ky} {v d : Value} {f : Ky → Option Value}
theorem in_g (F : Fr h₀ L s.heap m) (hk : kyIs e v = true) (hd : (r == sysModules) = false) (hm : h₀.MapOf (mix RP w) r f) (h : Q (.bool (f e).isSome) { s with toks := s.toks + 1 }) :
    wpAny (model RP w) A (compareOp .In v (.ref r)) Q E s :=
  wpAny_in_of (knd := mix RP w) hk hd (Heap.MapOf.grow hm F.keep) h
theorem get_g (F : Fr h₀ L s.heap m) (hk : kyIs e v = true) (hm : h₀.MapOf (mix RP w) r f) {x : Value} (hx : f e = some x) (h : Q x { s with toks := s.toks + 1 }) :
    wpAny (model RP w) A (getItem (.ref r) v) Q E s :=
  wpAny_getItem_of (knd := mix RP w) hk (Heap.MapOf.grow hm F.keep) hx h
theorem dget_method {pl : Sem Bool} {Q : Value × List Value → Shared → Prop} (F : Fr h₀ L s.heap m) (hm : h₀.MapOf (mix RP w) r f) (h : Q (.builtin "dict.get", [.ref r]) s) :
    wpAny (model RP w) A (getMethod (.ref r) (PySem.Str.ofString "get") pl) Q E s :=
  getMethod_builtin (Heap.MapOf.grow hm F.keep).typeIs PySem.F.plainAttrs_dict PySem.F.slot_dict_get PySem.F.type_dict_get (Heap.MapOf.grow hm F.keep).noDict h
theorem dget_call (F : Fr h₀ L s.heap m) (hk : kyIs e v = true) (hd : (r == sysModules) = false) (hm : h₀.MapOf (mix RP w) r f) (h : Q ((f e).getD d) { s with toks := s.toks + 1 }) :
    wpAny (model RP w) A (call (.builtin "dict.get") [.ref r, v, d]) Q E s :=
  call_meetsIn PySem.F.slot_dict_get (Heap.MapOf.grow hm F.keep).typeIs PySem.F.entry_dict_get (PySem.F.args_dict_get_3 _ _ _) (meets_dict_get_default (mix RP w) r hk hd d) ⟨_, Heap.MapOf.grow hm F.keep, h⟩
end
theorem Keep.fr {h₀ h h' : Heap} {L : Addr} {m : Str → Option Value} (k : Keep [] h h') (F : Fr h₀ L h m) : Fr h₀ L h' m := F.keeps k.all
theorem Keep.news {h₀ h h' : Heap} {L : Addr} {nw : List (Addr × Obj)} (k : Keep [] h h') (N : News h₀ L h nw) : News h₀ L h' nw := N.grown k.all
theorem Keep.add {h₀ h h' : Heap} {L : Addr} {m : Str → Option Value} {nw : List (Addr × Obj)} {l : Addr} {o : Obj} (k : Keep [] h h') (F : Fr h₀ L h m) (N : News h₀ L h nw) (hl : h'.get? l = some o) (hn : h.get? l = none) : News h₀ L h' ((l, o) :: nw) := by
  intro p hp
  rcases List.mem_cons.mp hp with rfl | hp
  · refine ⟨hl, ?_, ?_⟩
    · rintro rfl
      obtain ⟨oL, _, _, hL, _⟩ := F.ns
      rw [hn] at hL; cases hL
    · cases q : h₀.get? l with
      | none => rfl
      | some o' => have := F.keep _ _ q; rw [hn] at this; cases this
  · exact (k.news N) p hp
theorem fr_but {h₀ h h' : Heap} {L : Addr} {m : Str → Option Value} {wr : List Addr} (F : Fr h₀ L h m) (k : ∀ b o, b ∉ wr → h.get? b = some o → h'.get? b = some o) (hw : ∀ b ∈ wr, h₀.get? b = none) (hL : L ∉ wr) : Fr h₀ L h' m :=
  ⟨F.ns.at' fun o e => k _ o hL e, fun b o e => k b o (fun q => by rw [hw b q] at e; cases e) (F.keep b o e), F.above⟩
section
variable {M : Model} {A : Around} {E : Value → Shared → Prop} {s : Shared} {Q : Value → Shared → Prop} {sc : Scope} {cl : List (Str × Addr)} {C c : Addr} {env : Env} {x : Str} {pos : Pos} {v : Value} {m : Str → Option Value}
theorem comp_local (hn : s.heap.Ns C m) (hv : m x = some v) (h : Q v s) (hk : (compEnvC sc cl C env).scope.kind = .function) (hl : (compEnvC sc cl C env).kindOf x = some .local) (hd : (x == ("__debug__" : Str)) = false) :
    wpAny M A (eval (.Name x pos) (compEnvC sc cl C env)) Q E s := wpAny_Name (wpAny_loadName_local hk hl hn hv h) hd
theorem comp_cell (hc : cl.lookup x = some c) (hv : s.heap.IsCell c (some v)) (h : Q v s) (hk : (compEnvC sc cl C env).scope.kind = .function) (hl : (compEnvC sc cl C env).kindOf x = some .cell) (hd : (x == ("__debug__" : Str)) = false) :
    wpAny M A (eval (.Name x pos) (compEnvC sc cl C env)) Q E s := wpAny_Name (wpAny_loadName_cell hk hl hc hv h) hd
end
/-- the tests of a comprehension: one, none -/
theorem tests_one {M : Model} {A : Around} {E : Value → Shared → Prop} {s : Shared} {env : Env} {c : Expr} {Q : Bool → Shared → Prop} (h : wpAny M A (isTrue c env (eval c env)) Q E s) :
    wpAny M A (forIn [c] true fun c r => if r = true then do let ok ← isTrue c env (eval c env); pure (ForInStep.yield ok) else pure (ForInStep.yield r)) Q E s := by
  simp only [List.forIn_cons, List.forIn_nil, if_true]
  refine wpAny_bind (wpAny_bind (wpAny_mono h (fun ok s' h' => wpAny_pure (wpAny_pure h')) fun _ _ e => e))
theorem tests_none {M : Model} {A : Around} {E : Value → Shared → Prop} {s : Shared} {env : Env} {Q : Bool → Shared → Prop} (h : Q true s) :
    wpAny M A (forIn [] true fun c r => if r = true then do let ok ← isTrue c env (eval c env); pure (ForInStep.yield ok) else pure (ForInStep.yield r)) Q E s := by
  simp only [List.forIn_nil]
  exact wpAny_pure h

/-- here the walk stops, to go on by hand -/
noncomputable def Stop (P : Prop) : Prop := P
theorem Stop.out {P : Prop} (h : Stop P) : P := h
theorem Stop.go {P : Prop} (h : P) : Stop P := h
theorem m_at {m : Str → Option Value} {x : Str} {v : Value} (h : m x = some v) : m = fun y => if y = x then some v else m y := by
  funext y
  by_cases q : y = x
  · rw [if_pos q, q]; exact h
  · rw [if_neg q]

section
variable {w : World} {A : Around} {E : Value → Shared → Prop} {s : Shared} {h₀ : Heap} {L l b : Addr} {m : Str → Option Value} {Q : Value → Shared → Prop} {news : List (Addr × Obj)} {vs : Array Value} {ep e2 : Nat}
theorem eq_nil (N : News h₀ L s.heap news) (h1 : (l, PySem.W.listOf vs ep) ∈ news) (h2 : (b, PySem.W.listOf #[] e2) ∈ news) (hu : A.units < cLine) (h : Q (.bool (vs.size == 0)) s) :
    wpAny (model RP w) A (compareOp .Eq (.ref l) (.ref b)) Q E s := by
  have i1 : s.heap.IsList l vs := ⟨_, (N _ h1).1, rfl, _, rfl⟩
  have i2 : s.heap.IsList b #[] := ⟨_, (N _ h2).1, rfl, _, rfl⟩
  by_cases q : vs.size = 0
  · have := SeqAt.RcAt.lists (e := fun _ => true) i1 i2 (by simpa using q) hu (fun j h1 h2 => absurd h2 (Nat.not_lt_zero _)) RP w E Q
    refine this ?_
    simpa [q] using h
  · have q2 : (vs.size == 0) = false := by simpa using q
    rw [q2] at h
    exact SeqAt.RcAt.lists_lengths i1 i2 (by simpa using q) hu RP w E Q h
theorem ne_nil (N : News h₀ L s.heap news) (h1 : (l, PySem.W.listOf vs ep) ∈ news) (h2 : (b, PySem.W.listOf #[] e2) ∈ news) (hu : A.units < cLine) (h : Q (.bool (!(vs.size == 0))) s) :
    wpAny (model RP w) A (compareOp .NotEq (.ref l) (.ref b)) Q E s := by
  have i1 : s.heap.IsList l vs := ⟨_, (N _ h1).1, rfl, _, rfl⟩
  have i2 : s.heap.IsList b #[] := ⟨_, (N _ h2).1, rfl, _, rfl⟩
  by_cases q : vs.size = 0
  · have := SeqAt.RcNeAt.lists (e := fun _ => true) i1 i2 (by simpa using q) hu (fun j h1 h2 => absurd h2 (Nat.not_lt_zero _)) RP w E Q
    refine this ?_
    simpa [q] using h
  · have q2 : (vs.size == 0) = false := by simpa using q
    rw [q2] at h
    exact SeqAt.RcNeAt.lists_lengths i1 i2 (by simpa using q) hu RP w E Q h
theorem inst_type {M : Model} {od : Obj} (F : Fr h₀ L s.heap m) (h : h₀.get? l = some (instObj b e2)) (h2 : h₀.get? e2 = some od) : Looks M s.heap (typeOf (.ref l)) (.ref b) := by
  have I : PySem.W.InstAt s.heap l (instObj b e2) b (some od) := ⟨F.keep _ _ h, rfl, rfl, F.keep _ _ h2⟩
  exact I.type
end

/-- a for over a list that stands: by what holds between its turns of the frame's names and the ledger (its addresses stay) -/
theorem loop_list {w : World} {A : Around} {E : Value → Shared → Prop} {s : Shared} {env : Env} {h₀ : Heap} {x : Str} {body : List Stmt} {Q : Flow → Shared → Prop} {l : Addr} {vs : Array Value} {ep : Nat} {m₀ : Str → Option Value} {news : List (Addr × Obj)}
    (J : Nat → (Str → Option Value) → List (Addr × Obj) → Prop) (hh : A.handled = none) (hl : s.heap.get? l = some (PySem.W.listOf vs ep)) (hlL : l ≠ env.locals) (hln : ∀ p ∈ news, p.1 ≠ l)
    (F : Fr h₀ env.locals s.heap m₀) (N : News h₀ env.locals s.heap news) (hj : J 0 m₀ news)
    (turn : ∀ i v m₁ news₁ h tk own, vs[i]? = some v → news₁.map (·.1) = news.map (·.1) → OwnOff own (news.map (·.1)) → J i m₁ news₁ → Fr h₀ env.locals h (fun y => if y = x then some v else m₁ y) → News h₀ env.locals h (news₁ ++ own) →
      wpAny (model RP w) A (execs body env) (InvPostN h₀ env.locals (J (i + 1)) own (news.map (·.1)) { s with heap := h, toks := tk } Q) E { s with heap := h, toks := tk })
    (done : ∀ m₁ news₁ h tk, J vs.size m₁ news₁ → Fr h₀ env.locals h m₁ → News h₀ env.locals h news₁ → Q .next { s with heap := h, toks := tk }) :
    wpAny (model RP w) A (pyIter (.ref l)) (fun it s₂ => LoopAtV RP w A h₀ env x body Q E it s₂) E s := by
  have hls : s.heap.IsList l vs := ⟨_, hl, rfl, _, rfl⟩
  have hne : l ≠ s.heap.objs.size := Nat.ne_of_lt (nlt hl)
  refine wpAny_pyIter_list hls ?_
  have W := Walks.list (prog := RP) (w := w) hh s.heap.objs.size l hne vs
  let J' : Nat → (Str → Option Value) → List (Addr × Obj) → Prop := fun i m₁ news₁ => news₁.map (·.1) = news.map (·.1) ∧ J i m₁ news₁
  refine ⟨_, _, _, vs.size, _, _, m₀, news, J', rfl, W, ?_, ?_, ?_, ⟨⟨_, Heap.get?_push_size _ rfl, rfl, rfl⟩, hls.at fun o e => Heap.get?_push_of_some _ e⟩, F.push _, (fun p hp => ⟨Heap.get?_push_of_some _ (N p hp).1, (N p hp).2⟩), ⟨rfl, hj⟩, ?_, ?_⟩
  · intro hm
    rcases List.mem_cons.mp hm with e | hm
    · exact absurd F.ns.lt (e ▸ Nat.lt_irrefl _)
    · exact hlL (List.mem_singleton.mp hm).symm
  · intro b hb
    rw [List.mem_singleton.mp hb]
    exact next_is_new F
  · intro p hp hI
    exact absurd (Heap.lt_size (N p hp).1) ((List.mem_singleton.mp hI) ▸ Nat.lt_irrefl _)
  · rintro i v m₁ news₁ s₁ own ⟨hh', tk', rfl⟩ hin hP ⟨hadr, hJ⟩ hoff hown _ _ _ F₁ N₁
    have hsep : OwnOff own (news.map (·.1)) := by
      intro p hp b hb e
      obtain ⟨q, hq, rfl⟩ := List.mem_map.mp hb
      rcases List.mem_cons.mp (hown p hp) with h1 | h1
      · exact absurd (Heap.lt_size (N q hq).1) (by rw [← e, h1]; exact Nat.lt_irrefl _)
      · exact hln q hq (by rw [← e, List.mem_singleton.mp h1])
    have N₂ : News h₀ env.locals hh' (news₁ ++ own) := fun p hp => N₁ p ((List.mem_append.mp hp).elim (fun h => List.mem_append.mpr (.inr h)) fun h => List.mem_append.mpr (.inl h))
    refine wpAny_mono (turn i v m₁ news₁ hh' tk' own hP hadr hsep hJ F₁ N₂) (fun f s₂ p => ?_) fun _ _ e => e
    have fin : InvEndN h₀ env.locals (J (i + 1)) own (news.map (·.1)) { s with heap := hh', toks := tk' } s₂ → LoopStepU h₀ env.locals [s.heap.objs.size] own (J' (i + 1)) { s with heap := hh', toks := tk' } .next s₂ := by
      rintro ⟨h', tk, m', news', nx, e, F', N', hn, ho, ha, hm⟩
      refine ⟨rfl, h', tk, m', nx, e, F', fun p hp => N' p ((List.mem_append.mp hp).elim (ho p) (hn p)), fun p hp hq => ?_, ha, hm⟩
      have h1 : p.1 ∈ nx.map (·.1) := List.mem_map.mpr ⟨p, hp, rfl⟩
      rw [ha, ← hadr] at h1
      obtain ⟨q, hq1, hq2⟩ := List.mem_map.mp h1
      exact hoff q hq1 (by rw [hq2]; exact hq)
    cases f with
    | ret v => exact .ret p
    | brk => exact .brk p
    | next => exact .next (fin p)
    | cont => exact .cont (fin p)
  · rintro h' tk m' news' F' N' _ ⟨_, hJ⟩
    exact done m' news' h' tk hJ F' N'

theorem old_ne {h₀ h : Heap} {L l : Addr} {m : Str → Option Value} {o : Obj} (F : Fr h₀ L h m) (hl : h₀.get? l = some o) : l ≠ L := Nat.ne_of_lt (Nat.lt_of_lt_of_le (nlt hl) F.above)
theorem new_ne {h₀ h : Heap} {L l : Addr} {o : Obj} {news : List (Addr × Obj)} (N : News h₀ L h news) (hl : h₀.get? l = some o) : ∀ p ∈ news, p.1 ≠ l := fun p hp q => by
  have := (N p hp).2.2
  rw [q, hl] at this; cases this

section
variable {w : World} {A : Around} {E : Value → Shared → Prop} {s : Shared} {h₀ : Heap} {L l b : Addr} {Q : Value → Shared → Prop} {news : List (Addr × Obj)} {u : Value} {us : List Value} {ep e2 : Nat}
theorem eq_nil1 (N : News h₀ L s.heap news) (h1 : (l, PySem.W.listOf ⟨u :: us⟩ ep) ∈ news) (h2 : (b, PySem.W.listOf #[] e2) ∈ news) (hu : A.units < cLine) (h : Q (.bool false) s) :
    wpAny (model RP w) A (compareOp .Eq (.ref l) (.ref b)) Q E s := eq_nil N h1 h2 hu (by have e : ((⟨u :: us⟩ : Array Value).size == 0) = false := rfl; rw [e]; exact h)
theorem nil_eq {α : Type} {RR : Heap → Addr → α → Prop} {g : Heap} {c : Bd α} (h : VB RR g u c) : (u == Value.none) = isNil c := by
  match u, c, h with
  | .none, .nil, _ => rfl
  | .str c t, .cmd _, _ => exact beq_eq_false_iff_ne.mpr (fun q => nomatch q)
  | .ref a, .sub x, _ => exact beq_eq_false_iff_ne.mpr (fun q => nomatch q)
theorem is_nil {α : Type} {RR : Heap → Addr → α → Prop} {g : Heap} {c : Bd α} (h : VB RR g u c) (hq : Q (.bool (isNil c)) s) : wpAny (model RP w) A (compareOp .Is u .none) Q E s := is_none_gen (by rw [nil_eq h]; exact hq)
end

theorem new_apart {h₀ h : Heap} {L f l : Nat} {o : Obj} {news : List (Addr × Obj)} (N : News h₀ L h news) (hm : (f, o) ∈ news) (hn : h.get? l = none) : f ≠ l := fun q => by
  have := (N _ hm).1
  rw [q, hn] at this; cases this

/-- one object was handed over: it stays as well -/
theorem keep_one {s : Shared} {a : Addr} {o : Obj} {g h' : Heap} {L' : Addr} {m' : Str → Option Value} {nw : List (Addr × Obj)} (hs : s.heap.get? a = some o) (hg : g = hideAll s.heap ([(a, o)].map (·.1))) (F : Fr g L' h' m') (N : News g L' h' nw) (hm : (a, o) ∈ nw) : Keep [] s.heap h' := fun b o' _ e => by
  by_cases q : b = a
  · rw [q] at e ⊢
    rw [hs] at e
    cases e
    exact (N _ hm).1
  · exact keep_of_fr hg F b o' (by simpa using q) e
theorem fresh_one {s : Shared} {a t : Addr} {o o' : Obj} {g h' : Heap} {L' : Addr} {nw : List (Addr × Obj)} (hg : g = hideAll s.heap ([(a, o)].map (·.1))) (N : News g L' h' nw) (hm : (t, o') ∈ nw) (ht : @Ne Nat t a) : s.heap.get? t = none := by
  cases q : s.heap.get? t with
  | none => rfl
  | some x =>
    have h1 := (N _ hm).2.2
    rw [hg, hideAll_get _ q (by simpa using ht)] at h1
    cases h1

theorem keep_hide {g₀ g h : Heap} {a : Addr} {o : Obj} (k : Keep [] g₀ h) (hn : g₀.get? a = none) (hg : g = hideAll h ([(a, o)].map (·.1))) : Keep [] g₀ g := fun b o' _ e => by
  rw [hg]
  exact hideAll_get _ (k.all _ _ e) (fun q => by
    have : b = a := by simpa using q
    rw [this, hn] at e; cases e)
theorem hide_at {g h : Heap} {a l : Addr} {o o' : Obj} (hl : h.get? l = some o') (hne : @Ne Nat l a) (hg : g = hideAll h ([(a, o)].map (·.1))) : g.get? l = some o' := by
  rw [hg]
  exact hideAll_get _ hl (by simpa using hne)
theorem cls_ne {h : Heap} {a l : Addr} {o o' : Obj} (hl : h.get? l = some o') (ha : h.get? a = some o) (hc : o'.cls ≠ o.cls) : @Ne Nat l a := fun q => by
  have q : l = a := q
  rw [q, ha] at hl
  exact hc (congrArg Obj.cls (Option.some.inj hl)).symm
theorem News.only {h₀ h : Heap} {L : Addr} {news : List (Addr × Obj)} {p : Addr × Obj} (N : News h₀ L h news) (hm : p ∈ news) : News h₀ L h [p] := fun q hq => by rw [List.mem_singleton.mp hq]; exact N p hm

theorem lt_ne : Value.type "list" ≠ Value.type "tuple" := by simp
theorem none_before {g₀ g : Heap} {a : Addr} (k : Keep [] g₀ g) (h : g.get? a = none) : g₀.get? a = none := by
  cases q : g₀.get? a with
  | none => rfl
  | some o => rw [k.all _ _ q] at h; cases h
section
variable {prog : Program} {w : World} {A : Around} {E : Value → Shared → Prop} {s : Shared}
open Builtin

theorem next_tuple {it t : Addr} {i : Nat} {items : Array Value} {x : Value} {Q : Value → Shared → Prop} (hit : s.heap.IsTupleIter it t i) (ht : s.heap.IsTuple t items) (hx : items[i]? = some x)
    (hQ : ∀ h', h'.IsTupleIter it t (i + 1) → Heap.SameBut it s.heap h' → Q x { s with heap := h' }) :
    wpAny (model prog w) A (SmallTypes.nextOf (.ref it)) Q E s := by
  obtain ⟨o, ho, hc, hd⟩ := id hit
  obtain ⟨ol, hol, _, nl, hdl⟩ := ht
  unfold SmallTypes.nextOf
  refine wpAny_bind (wpAny_callSpecial?_slot (name := Str.ofString "__next__") hit.typeIs F.slot_tuple_iterator_next
    (wpAny_call_entry F.slot_tuple_iterator_next hit.typeIs F.entry_tuple_iterator_next ?_ (F.args_tuple_iterator_next_1 _)))
  show wpAny _ _ (field (.ref it) 0 >>= _) _ _ s
  refine wpAny_bind (wpAny_field ho hd (x := .ref t) rfl ?_)
  show wpAny _ _ (if (Value.ref t == Value.none) = true then _ else _) _ _ s
  rw [if_neg (show ¬ ((Value.ref t == Value.none) = true) from Bool.false_ne_true)]
  show wpAny _ _ (field (.ref it) 1 >>= _) _ _ s
  refine wpAny_bind (wpAny_field ho hd (x := .int i 0) rfl ?_)
  show wpAny _ _ (seqItems? (.ref t) >>= _) _ _ s
  refine wpAny_bind (wpAny_seqItems hol hdl ?_)
  simp only [Int.toNat_natCast, hx]
  refine wpAny_bind (wpAny_setField ho hd (by simp) (wpAny_pure ⟨x, rfl, wpAny_pure (hQ _ ?_ (Heap.SameBut.update ..))⟩))
  exact ⟨_, Heap.get?_update_self _ ho (Obj.isFreed_of_fields (Obj.data_mapFields hd _)), (Obj.cls_mapFields ..).trans hc, by rw [Obj.data_mapFields hd]; simp [rawInt]⟩

theorem end_tuple {it t : Addr} {i : Nat} {items : Array Value} {Q : Value → Shared → Prop} (hh : A.handled = none) (hit : s.heap.IsTupleIter it t i) (ht : s.heap.IsTuple t items) (hx : items[i]? = none)
    (hE : ∀ h' e, Heap.ExtBut it s.heap h' → (∃ o, h'.get? e = some o ∧ o.cls = .type "StopIteration") → E (.ref e) { s with heap := h' }) :
    wpAny (model prog w) A (SmallTypes.nextOf (.ref it)) Q E s := by
  obtain ⟨o, ho, hc, hd⟩ := id hit
  obtain ⟨ol, hol, _, nl, hdl⟩ := ht
  unfold SmallTypes.nextOf
  refine wpAny_bind (wpAny_callSpecial?_slot (name := Str.ofString "__next__") hit.typeIs F.slot_tuple_iterator_next
    (wpAny_call_entry F.slot_tuple_iterator_next hit.typeIs F.entry_tuple_iterator_next ?_ (F.args_tuple_iterator_next_1 _)))
  show wpAny _ _ (field (.ref it) 0 >>= _) _ _ s
  refine wpAny_bind (wpAny_field ho hd (x := .ref t) rfl ?_)
  show wpAny _ _ (if (Value.ref t == Value.none) = true then _ else _) _ _ s
  rw [if_neg (show ¬ ((Value.ref t == Value.none) = true) from Bool.false_ne_true)]
  show wpAny _ _ (field (.ref it) 1 >>= _) _ _ s
  refine wpAny_bind (wpAny_field ho hd (x := .int i 0) rfl ?_)
  show wpAny _ _ (seqItems? (.ref t) >>= _) _ _ s
  refine wpAny_bind (wpAny_seqItems hol hdl ?_)
  simp only [Int.toNat_natCast, hx]
  refine wpAny_bind (wpAny_rule (wpAny_bind (wpAny_setField ho hd (by simp) ?_)))
  show wpAny _ _ (newExc (.type "StopIteration") [] >>= _) _ _ _
  refine wpAny_bind ?_
  simp only [newExc, newTuple]
  refine wpAny_bind (wpAny_newObj_type ?_ (by size_fits))
  refine wpAny_bind (m := firstArgMember _ _) (wpAny_of_eq (a := Value.none) (by first | rfl | (simp only [firstArgMember]; rfl)) ?_)
  refine wpAny_newObj_type ?_ (by size_fits)
  simp only [raiseNew]
  refine wpAny_bind (wpAny_handled ?_)
  first | rw [show A.in1.handled = none from hh] | rw [hh]
  refine wpAny_bind (wpAny_pure (wpAny_throw ?_))
  exact hE _ _ (((Heap.SameBut.update ..).extBut.push _).push _) ⟨_, Heap.get?_push_size _ rfl, rfl⟩
end

theorem draws_tuple {prog : Program} {w : World} {A : Around} (hh : A.handled = none) (it l : Addr) (hne : l ≠ it) (items : Array Value) :
    Draws prog w A it [it, l] items.size (fun i v => items[i]? = some v) (fun i h => h.IsTupleIter it l i ∧ h.IsTuple l items) where
  live := fun _ _ st => let ⟨o, ho, _⟩ := st.1; ⟨o, ho⟩
  frame := fun _ _ _ st hk => ⟨st.1.at fun o e => hk it (by simp) o e, st.2.at fun o e => hk l (by simp) o e⟩
  item := fun i s Q E hi st hQ => by
    refine next_tuple st.1 st.2 (x := items[i]) (by simp [hi]) fun h' hit' hs' => ?_
    exact hQ _ h' s.toks (by simp [hi]) ⟨hit', st.2.extBut hs'.extBut hne⟩ hs'
  done := fun s Q E st hE => end_tuple hh st.1 st.2 (by simp) hE

open AutoSeq1 (wpAny_loadPart') in
theorem meets_enum (l : Addr) (items : Array Value) (n : Nat) (dct : Option Addr) (sl : Array (Option Value)) :
    Meets (Builtin.«enumerate.__new__» ⟨[.type "enumerate", .ref l], []⟩) (fun _ R s => s.heap.get? l = some { cls := .type "tuple", dict := dct, data := .seq items n, slots := sl } ∧
      R (.ok (.ret (.ref (s.heap.push { cls := .type "tuple_iterator", data := .fields #[.ref l, .int 0 0] }).objs.size)))
        { s with heap := (s.heap.push { cls := .type "tuple_iterator", data := .fields #[.ref l, .int 0 0] }).push { cls := .type "enumerate", data := .fields #[.none, .bool false, .ref s.heap.objs.size, rawInt 0, .none, .none] } }) :=
  .of_wp fun prog w A R s h => by
    obtain ⟨hp, g, d, tk, os⟩ := s; obtain ⟨hl, h⟩ := h
    have hsub := sub_enumerate
    have hL : Heap.IsTuple (Shared.heap ⟨hp, g, d, tk, os⟩) l items := ⟨_, hl, rfl, n, rfl⟩
    wp_walk using wpAny_loadPart' hl
    refine wpAny_stack_any fun st => wpAny_pure ?_
    split
    · rename_i c _ _ _ _ _
      cases (c == Value.type "enumerate")
      · wp_walk using wpAny_loadPart' hl, wpAny_pyIter_tuple hL
        exact ⟨_, rfl, h⟩
      · wp_walk using wpAny_loadPart' hl, wpAny_pyIter_tuple hL
        exact ⟨_, rfl, h⟩
    · wp_walk using wpAny_loadPart' hl, wpAny_pyIter_tuple hL
      exact ⟨_, rfl, h⟩

section
variable {prog : Program} {w : World} {A : Around} {E : Value → Shared → Prop} {s : Shared}
theorem call_enum {l : Addr} {items : Array Value} {Q : Value → Shared → Prop} (hL : s.heap.IsTuple l items)
    (h : ∀ h', IsEnum h' (s.heap.objs.size + 1) s.heap.objs.size 0 .none → h'.IsTupleIter s.heap.objs.size l 0 → (∀ b o, s.heap.get? b = some o → h'.get? b = some o) → Q (.ref (s.heap.objs.size + 1)) { s with heap := h' }) :
    wpAny (model prog w) A (call (.type "enumerate") [.ref l]) Q E s := by
  obtain ⟨⟨c, dct, dt, sl⟩, hl, hc, n, hd⟩ := hL
  replace hc : c = .type "tuple" := hc
  replace hd : dt = .seq items n := hd
  subst hc hd
  refine callType_new F.called_enumerate (by decide) (F.typeCall_enumerate_1 _) (F.newCall_enumerate_1 _) (fun obj => F.args_object_init_2 obj _) F.entry_enumerate_new (meets_enum l items n dct sl) ⟨hl, ?_⟩
  have hz : (s.heap.push { cls := .type "tuple_iterator", data := .fields #[.ref l, .int 0 0] }).objs.size = s.heap.objs.size + 1 := Heap.size_push ..
  show _ ∧ _
  rw [hz]
  have he : IsEnum ((s.heap.push { cls := .type "tuple_iterator", data := .fields #[.ref l, .int 0 0] }).push
      { cls := .type "enumerate", data := .fields #[.none, .bool false, .ref s.heap.objs.size, rawInt 0, .none, .none] }) (s.heap.objs.size + 1) s.heap.objs.size 0 .none := by
    have := Heap.get?_push_size (s.heap.push { cls := .type "tuple_iterator", data := .fields #[.ref l, .int 0 0] }) (o := { cls := .type "enumerate", data := .fields #[.none, .bool false, .ref s.heap.objs.size, rawInt 0, .none, .none] }) rfl
    rw [hz] at this; exact this
  exact ⟨⟨_, he, rfl⟩, h _ he ⟨_, Heap.get?_push_of_some _ (Heap.get?_push_size _ rfl), rfl, rfl⟩ fun b o x => Heap.get?_push_of_some _ (Heap.get?_push_of_some _ x)⟩
end

section
variable {prog : Program} {w : World} {A : Around} {E : Value → Shared → Prop} {s : Shared} {env : Env} {h₀ : Heap} {body : List Stmt} {Q : Flow → Shared → Prop}
/-- enumerate over a tuple of the ledger, turn by turn -/
theorem enum_tuple {elts : List Expr} {k : Nat} {pos : Pos} {l : Addr} {lo : Obj} {vs : List Value} {xs : List Itm} {n : Nat} {m₀ : Str → Option Value} {news : List (Addr × Obj)}
    (hh : A.handled = none) (F : Fr h₀ env.locals s.heap m₀) (N : News h₀ env.locals s.heap news) (hm : (l, lo) ∈ news) (hc : lo.cls = .type "tuple") (hd : lo.data = .seq vs.toArray n) (hx : enumItems 0 vs = xs)
    (rest₀ : ∀ I : Addr, (∀ p ∈ news, p.1 < I) → ItemsRest prog w A E h₀ env (.Tuple elts k pos) body Q s [(I + 1, "enumerate"), (I, "tuple_iterator")] [(l, lo)] xs m₀ news) :
    wpAny (model prog w) A (call (.type "enumerate") [.ref l]) (fun xv s₁ => wpAny (model prog w) A (pyIter xv) (fun it s₂ => TurnsAt prog w A h₀ env (.Tuple elts k pos) body Q E it s₂) E s₁) E s := by
  subst hx
  have hax := N _ hm
  have hl : s.heap.IsTuple l vs.toArray := ⟨lo, hax.1, hc, n, hd⟩
  have hlt : l < s.heap.objs.size := Heap.lt_size hax.1
  have hLs : env.locals < s.heap.objs.size := F.ns.lt
  refine call_enum hl fun h' hE hI hk => ?_
  refine wpAny_pyIter_enum hE ?_
  refine ktu_core (tk0 := s.toks) (keep := [(l, lo)]) (KTurns.ofWalksU (WalksT.enumerateD (draws_tuple (A := A.in1) hh s.heap.objs.size l (Nat.ne_of_lt hlt) vs.toArray) (s.heap.objs.size + 1) (Nat.succ_ne_self _) ?_ (by simp)).toU) (by simp [enumItems_length]) ?_ ?_ ?_ ?_ ?_ ?_ ?_ ?_ (F.keeps hk) (N.grown hk) (And.intro hm trivial) (rest₀ _ fun p hp => Heap.lt_size (N p hp).1)
  · intro hb
    rcases List.mem_cons.mp hb with e | hb
    · exact Nat.succ_ne_self _ e
    · exact ktu_ne 1 hlt (List.mem_singleton.mp hb).symm
  · rintro i v h ⟨T, vals, rfl, ⟨t, x, hx, rfl⟩, hT⟩
    refine ⟨_, enumItems_get vs 0 i (v := x) (by simpa using hx), T, t, rfl, ?_⟩
    show IsTup h T #[.int ((0 + i : Nat) : Int) t, x]
    rw [Nat.zero_add]
    exact hT
  · rintro i h ⟨⟨old, he⟩, ⟨oi, hoi, hic, _⟩, _⟩
    have he' : ∃ oe : Obj, h.get? (s.heap.objs.size + 1) = some oe ∧ oe.cls = .type "enumerate" := ⟨_, he, rfl⟩
    obtain ⟨oe, h1, h2⟩ := he'
    refine ⟨[(s.heap.objs.size + 1, oe), (s.heap.objs.size, oi)], ⟨⟨rfl, h2⟩, ⟨rfl, hic⟩, trivial⟩, fun p hp => ?_⟩
    rcases List.mem_cons.mp hp with rfl | hp
    · exact h1
    · rw [List.mem_singleton.mp hp]; exact hoi
  · intro b hb
    have hb' : b = s.heap.objs.size + 1 ∨ b = s.heap.objs.size := by simpa using hb
    rcases hb' with rfl | rfl
    · exact ⟨by simp, ktu_new F (Nat.le_add_right _ _)⟩
    · exact ⟨by simp, ktu_new F (Nat.le_refl _)⟩
  · intro b hb
    simpa using hb
  · intro b hb
    have hb' : b = s.heap.objs.size + 1 ∨ b = s.heap.objs.size ∨ b = l := by simpa using hb
    rcases hb' with rfl | rfl | rfl
    · exact .inl (by simp)
    · exact .inl (by simp)
    · exact .inr ⟨lo, by simp⟩
  · intro hI'
    have hb' : env.locals = s.heap.objs.size + 1 ∨ env.locals = s.heap.objs.size ∨ env.locals = l := by simpa using hI'
    rcases hb' with e | e | e
    · exact ktu_ne 1 hLs e
    · exact Nat.ne_of_lt hLs e
    · exact hax.2.1 e.symm
  · intro p hp hI'
    have hb' : p.1 = s.heap.objs.size + 1 ∨ p.1 = s.heap.objs.size := by simpa using hI'
    have hlp := Heap.lt_size (N p hp).1
    rcases hb' with e | e
    · exact ktu_ne 1 hlp e
    · exact Nat.ne_of_lt hlp e
  · exact ⟨⟨.none, hE⟩, hI, hl.at fun o e => hk l o e⟩
end
theorem k1 (w : World) (h : Heap) : (KK w.params).In h → PySem.Challenge.rw_ok0053_01.prog = PySem.Challenge.rw_ok0053_01.prog := by
  k_fill
  intro _; rfl
local macro_rules | `(tactic| walk1) => `(tactic| k_extra "walk")
local macro_rules | `(tactic| k_ne) => `(tactic| k_extra "my_ne")
local macro_rules | `(tactic| size_fits) => `(tactic| exact Nat.le_of_ble_eq_true rfl)
local macro_rules | `(tactic| k_in) => `(tactic| k_extra "my_in")
local macro_rules | `(tactic| k_all) => `(tactic| with_reducible assumption)
theorem k2 : True := by
  k_with "my_pj" => (with_reducible first | assumption | ((fail_if_success (fail_if_success refine pkf (by assumption) ?_)); first | exact pk0 (by assumption) | exact pk1 (by assumption) | exact pk2 (by assumption) | exact pk3 (by assumption) | exact pk4 (by assumption) | exact pk5 (by assumption) | exact pk6 (by assumption) | exact pk7 (by assumption) | exact pk8 (by assumption) | exact pk9 (by assumption) | exact pk10 (by assumption) | exact pk11 (by assumption) | exact pk12 (by assumption) | exact pr1 (by assumption) | exact pr2 (by assumption) | exact pr3 (by assumption) | exact pr4 (by assumption) | exact pr5 (by assumption) | exact pr6 (by assumption) | exact pr7 (by assumption) | exact pr8 (by assumption) | exact pr9 (by assumption) | exact pr10 (by assumption) | exact pr11 (by assumption) | exact pr12 (by assumption)) | fail "my_pj")
  k_with "my_pn" => (with_reducible first | assumption | exact And.left (by assumption) | exact And.left (And.right (by assumption)) | exact And.left (And.right (And.right (by assumption))) | exact And.left (And.right (And.right (And.right (by assumption)))) | exact And.left (And.right (And.right (And.right (And.right (by assumption))))) | exact And.left (And.right (And.right (And.right (And.right (And.right (by assumption)))))) | exact And.left (And.right (And.right (And.right (And.right (And.right (And.right (by assumption))))))) | exact And.left (And.right (And.right (And.right (And.right (And.right (And.right (And.right (by assumption)))))))) | exact And.left (And.right (And.right (And.right (And.right (And.right (And.right (And.right (And.right (by assumption))))))))) | exact And.left (And.right (And.right (And.right (And.right (And.right (And.right (And.right (And.right (And.right (by assumption)))))))))) | exact And.left (And.right (And.right (And.right (And.right (And.right (And.right (And.right (And.right (And.right (And.right (by assumption))))))))))) | exact And.left (And.right (And.right (And.right (And.right (And.right (And.right (And.right (And.right (And.right (And.right (And.right (by assumption)))))))))))) | exact And.right (by assumption) | exact And.right (And.right (by assumption)) | exact And.right (And.right (And.right (by assumption))) | exact And.right (And.right (And.right (And.right (by assumption)))) | exact And.right (And.right (And.right (And.right (And.right (by assumption))))) | exact And.right (And.right (And.right (And.right (And.right (And.right (by assumption)))))) | exact And.right (And.right (And.right (And.right (And.right (And.right (And.right (by assumption))))))) | exact And.right (And.right (And.right (And.right (And.right (And.right (And.right (And.right (by assumption)))))))) | exact And.right (And.right (And.right (And.right (And.right (And.right (And.right (And.right (And.right (by assumption))))))))) | exact And.right (And.right (And.right (And.right (And.right (And.right (And.right (And.right (And.right (And.right (by assumption)))))))))) | exact And.right (And.right (And.right (And.right (And.right (And.right (And.right (And.right (And.right (And.right (And.right (by assumption))))))))))) | exact And.right (And.right (And.right (And.right (And.right (And.right (And.right (And.right (And.right (And.right (And.right (And.right (by assumption)))))))))))) | fail "my_pn")
  k_with "my_in" => (first | k_in_fast | assumption | exact Frag.In.keeps (by k_asm) (Fr.keep (by k_asm)) | fail "my_in")
  k_with "my_nn" => (with_reducible first | assumption | exact nn1 (by assumption) | exact nn1 (nn1 (by assumption)) | fail "my_nn")
  k_with "my_up" => (with_reducible first | exact up0 (by assumption) (by decide) | exact up1 (by assumption) (by decide) | exact up2 (by assumption) (by decide) | fail "my_up")
  k_with "my_ne" => (refine neN ?_; (try dsimp only); (with_reducible first | assumption | exact Ne.symm (by assumption) | exact ne_lt (by assumption) | exact ne_gt (by assumption) | exact ne_ls (by assumption) (by assumption) | exact ne_sl (by assumption) (by assumption) | exact ne_lt (by k_extra "my_pj") | exact ne_gt (by k_extra "my_pj") | exact ne_lt2 (by assumption) (by k_extra "my_pj") | exact ne_gt2 (by assumption) (by k_extra "my_pj") | k_extra "my_pn" | exact Ne.symm (by k_extra "my_pn") | exact ne_lt3 (by assumption) (by assumption) (by k_extra "my_pj") | exact ne_gt3 (by assumption) (by assumption) (by k_extra "my_pj") | fail "my_ne"))
  k_with "my_enter" => ((case ho => k_is); (case h1 => exact rfl); (case h2 => exact rfl); (case hq => decide +kernel); (case hcd => k_is); (case hbind => (intro; first | exact BindsTo.of_eq rfl | exact binds_K (by assumption) rfl (by k_is) rfl rfl rfl)); (case hloc => exact locs rfl); (case hco => exact rfl); (case hgen => exact rfl); (case hk => exact rfl); (case hcell => decide); (try dsimp only))
  k_with "my_enter2" => ((case hloc => exact locs rfl); (case hco => exact rfl); (case hgen => exact rfl); (case hk => exact rfl); (case hcell => decide); (try dsimp only))
  k_with "compareOp In" => (k_here; k_dflt (refine' in_g ?F ?hk ?hd ?hm ?_; (case F => k_asm); (case hk => assumption); (case hd => assumption); (case hm => first | assumption | exact Heap.MapOf.grow (by assumption) hg₀.all); k_whole))
  k_with "getAttr ref" => (k_here; k_dflt (refine' get_own ?k1 ?k2 ?k3 ?k4 ?k5 ?k6 ?k7 ?k8 ?k9 ?_; (case k1 => k_asm); (case k2 => k_asm); (case k3 => (refine' instAt_g ?F ?a ?b; (case F => k_asm); (case a => first | assumption | exact hg₀.all _ _ (by assumption)); (case b => first | assumption | exact hg₀.all _ _ (by assumption)))); (case k4 => k_is); (case k5 => k_is); (case k6 => k_is); (case k7 => k_is); (case k8 => k_get); (case k9 => first | assumption | k_handed); k_whole))
  k_with "getMethod ref" => (k_here; k_dflt (refine' dget_method ?F ?hm ?_; (case F => k_asm); (case hm => first | assumption | exact Heap.MapOf.grow (by assumption) hg₀.all); k_whole))
  k_with "getMethod ref" => (k_here; k_dflt (refine' method_inst ?k1 ?k2 ?k3 ?k4 ?k5 ?k6 ?k7 ?_; (case k1 => k_asm); (case k2 => k_asm); (case k3 => (refine' instAt_g ?F ?a ?b; (case F => k_asm); (case a => first | assumption | exact hg₀.all _ _ (by assumption)); (case b => first | assumption | exact hg₀.all _ _ (by assumption)))); (case k4 => k_is); (case k5 => k_is); (case k6 => k_is); (case k7 => k_get); k_whole))
  k_with "call builtin:dict.get" => (k_here; k_dflt (refine' dget_call ?F ?hk ?hd ?hm ?_; (case F => k_asm); (case hk => assumption); (case hd => assumption); (case hm => first | assumption | exact Heap.MapOf.grow (by assumption) hg₀.all); k_whole))
  k_with "w_exec" => ((with_reducible show wpAny _ _ (exec (Stmt.While _ _ _ _) _) _ _ _); refine Stop.out ?_)
  k_with "w_eval" => ((with_reducible show wpAny _ _ (eval (Expr.ListComp _ _ _ _) _) _ _ _); refine Stop.out ?_)
  k_with "w_iter" => ((with_reducible show wpAny _ _ (pyIter (Value.ref _)) _ _ _); (fail_if_success (with_reducible show wpAny _ _ _ (fun _ _ => TurnsAt _ _ _ _ _ _ _ _ _ _ _) _ _)); refine Stop.out ?_)
  k_with "w_eval" => ((with_reducible show wpAny _ _ (eval (Expr.Name _ _) (compEnvC _ _ _ _)) _ _ _); k_dflt (first
    | (refine' comp_local (by assumption) (by assumption) ?_ ?a ?b ?c; (case a => exact rfl); (case b => exact rfl); (case c => decide))
    | (refine' comp_cell ?x (by assumption) ?_ ?a ?b ?c; (case x => exact rfl); (case a => exact rfl); (case b => exact rfl); (case c => decide))))
  k_with "w_callr" => ((with_reducible show wpAny _ _ (call (Value.ref 140) _ _) _ _ _); refine wpAny_call ?_; k_dflt (refine' chain_code ?C (g₀ := g₀) ?hg ?hk ?_; (case C => exact Rdy.le (Rd _ _ _ (by k_asm) News.nil) (by decide)); (case hg => exact Keep.of_all (fun b o e => Fr.keep (by k_asm) b o (hg₀.all b o e))); (case hk => assumption); k_whole); intro h5 tk5 l5 vs5 ep5 kp5 hl5 hn5 hR5; (have F5 := Keep.fr kp5 (by k_asm)); (have N5 := Keep.add kp5 (by k_asm) (by k_asm) hl5 hn5); clear hn5; (try dsimp only))
  k_with "w_callr" => ((with_reducible show wpAny _ _ (call (Value.ref 91) _ _) _ _ _); refine wpAny_call ?_; k_dflt (refine' is_bound_code ?C (g₀ := g₀) ?hg ?hk ?hx ?hm ?hr ?he ?_; (case C => exact Rdy.le (Rd _ _ _ (by k_asm) News.nil) (by decide)); (case hg => exact Keep.of_all (fun b o e => Fr.keep (by k_asm) b o (hg₀.all b o e))); (case hk => assumption); (case hx => assumption); (case hm => first | assumption | exact Heap.MapOf.grow (by assumption) hg₀.all); (case hr => assumption); (case he => assumption); k_whole); intro h5 tk5 kp5; (have F5 := Keep.fr kp5 (by k_asm)); (try (have hn6 := Heap.Ns.keeps hn6 kp5.all)); (try (have hc6 := Heap.IsCell.keeps hc6 kp5.all)); (try (have kt := Keep.trans kt kp5)); (try dsimp only))
  k_with "w_callr" => ((with_reducible show wpAny _ _ (call (Value.ref 98) _ _) _ _ _); refine wpAny_call ?_; k_dflt (refine' own_code ?C (g₀ := g₀) ?hg ?hk ?hx ?hm ?hr ?he ?_; (case C => exact Rdy.le (Rd _ _ _ (by k_asm) News.nil) (by decide)); (case hg => exact Keep.of_all (fun b o e => Fr.keep (by k_asm) b o (hg₀.all b o e))); (case hk => assumption); (case hx => assumption); (case hm => first | assumption | exact Heap.MapOf.grow (by assumption) hg₀.all); (case hr => assumption); (case he => assumption); k_whole); intro h5 tk5 kp5; (have F5 := Keep.fr kp5 (by k_asm)); (try (have hn6 := Heap.Ns.keeps hn6 kp5.all)); (try (have hc6 := Heap.IsCell.keeps hc6 kp5.all)); (try (have kt := Keep.trans kt kp5)); (try dsimp only))
  k_with "my_enterC" => ((case ho => k_is); (case h1 => exact rfl); (case h2 => exact rfl); (case hq => decide +kernel); (case hcd => k_is); (case hbind => (intro; first | exact BindsTo.of_eq rfl | exact binds_K (by assumption) rfl (by k_is) rfl rfl rfl)); (case hkind => exact rfl); (case hnd => decide +kernel); (case hco => exact rfl); (case hgen => exact rfl); (case hk => exact rfl); (try dsimp only))
  k_with "w_cmp" => ((with_reducible show wpAny _ _ (compareOp CmpOp.Eq (Value.ref _) (Value.ref _)) _ _ _); k_dflt (refine' eq_nil ?N ?a ?b ?hu ?_; (case N => k_asm); (case a => k_mem); (case b => k_mem); (case hu => exact (Rd _ _ _ (by k_asm) News.nil).units); k_whole))
  k_with "w_cmp" => ((with_reducible show wpAny _ _ (compareOp CmpOp.NotEq (Value.ref _) (Value.ref _)) _ _ _); k_dflt (refine' ne_nil ?N ?a ?b ?hu ?_; (case N => k_asm); (case a => k_mem); (case b => k_mem); (case hu => exact (Rd _ _ _ (by k_asm) News.nil).units); k_whole))
  k_with "w_callr" => ((with_reducible show wpAny _ _ (call (Value.ref 150) _ _) _ _ _); refine wpAny_call ?_; k_dflt (refine' rows_code ?C (g₀ := g₀) ?hg ?hk ?he ?_; (case C => exact Rdy.le (Rd _ _ _ (by k_asm) News.nil) (by decide)); (case hg => exact Keep.of_all (fun b o e => Fr.keep (by k_asm) b o (hg₀.all b o e))); (case hk => assumption); (case he => assumption); k_whole); intro h5 tk5 l5 vs5 ep5 kp5 hl5 hn5 hV5; (have F5 := Keep.fr kp5 (by k_asm)); (have N5 := Keep.add kp5 (by k_asm) (by k_asm) hl5 hn5); clear hn5; (try dsimp only))
  k_with "w_callr" => ((with_reducible show wpAny _ _ (call (Value.ref 155) _ _) _ _ _); refine wpAny_call ?_; k_dflt (refine' dflts_code ?C (g₀ := g₀) ?hg ?hk ?_; (case C => exact Rdy.le (Rd _ _ _ (by k_asm) News.nil) (by decide)); (case hg => exact Keep.of_all (fun b o e => Fr.keep (by k_asm) b o (hg₀.all b o e))); (case hk => assumption); k_whole); intro h5 tk5 l6 vs6 ep6 kp5 hl5 hn5 hV6; (have F5 := Keep.fr kp5 (by k_asm)); (have N5 := Keep.add kp5 (by k_asm) (by k_asm) hl5 hn5); clear hn5; (have hz6 := dflts_size hk hV6); (try dsimp only))
  k_with "w_sub" => ((with_reducible show wpAny _ _ (subscriptTail _ (PySem.Expr.Slice _ _ none _) (Value.ref _) (Value.ref _)) _ _ _); k_dflt (refine' kmk_slice ?F ?N ?l ?p ?q ?_ ?s ?t ?z; (case F => k_asm); (case N => k_asm); (case l => kmk_list); (case p => kmk_part); (case q => kmk_part); (case s => with_unfolding_all rfl); (case t => kmk_pure); (case z => first | assumption | kmk_size)); intro l7 h7 F7 N7 _; (try rw [pick_one] at N7); (try rw [pick_nil] at N7))
  k_with "w_callr" => ((with_reducible show wpAny _ _ (call (Value.ref 133) _ _) _ _ _); refine wpAny_call ?_; k_dflt (refine' isk_code ?C hI (g₀ := g₀) ?hg ?hv ?_; (case C => exact Rdy.le (Rd _ _ _ (by k_asm) News.nil) (by decide)); (case hg => exact Keep.of_all (fun b o e => Fr.keep (by k_asm) b o (hg₀.all b o e))); (case hv => assumption); k_whole); intro h5 tk5 kp5; (have F5 := Keep.fr kp5 (by k_asm)); (have N5 := Keep.news kp5 (by k_asm)); (try dsimp only [isSub]))
  k_with "w_callr" => ((with_reducible show wpAny _ _ (call (Value.ref 162) _ _) _ _ _); refine wpAny_call ?_; k_dflt (refine' binds_code ?C (g₀ := g₀) ?hg ?hk ?he ?_; (case C => exact Rdy.le (Rd _ _ _ (by k_asm) News.nil) (by decide)); (case hg => exact Keep.of_all (fun b o e => Fr.keep (by k_asm) b o (hg₀.all b o e))); (case hk => assumption); (case he => assumption); k_whole); intro h5 tk5 l5 vs5 ep5 kp5 hl5 hn5 hV5; (have F5 := Keep.fr kp5 (by k_asm)); (have N5 := Keep.add kp5 (by k_asm) (by k_asm) hl5 hn5); clear hn5; (try dsimp only); (have hz5 := binds_size hk hV5); (obtain ⟨_ | ⟨u5, us5⟩⟩ := vs5); rotate_left; (obtain ⟨b5, r5, hb5, hB5, hr5⟩ := Vals.cons hV5); rotate_left)
  k_with "w_callr" => ((with_reducible show wpAny _ _ (call (Value.ref 169) _ _) _ _ _); refine wpAny_call ?_; k_dflt (refine' joined_code ?C hI (g₀ := g₀) ?hg ?hl ?hV ?hz ?_; (case C => exact Rdy.le (Rd _ _ _ (by k_asm) News.nil) (by decide)); (case hg => exact Keep.of_all (fun b o e => Fr.keep (by k_asm) b o (hg₀.all b o e))); (case hl => exact News.get (by k_asm) (by k_mem)); (case hV => assumption); (case hz => assumption); k_whole); intro h6 tk6 v6 kp6 hR6; (have hR6 := RV.weak hR6 (Fr.keep (by k_asm))); (have F6 := Keep.fr kp6 (by k_asm)); (try dsimp only))
  k_with "w_callr" => ((with_reducible show wpAny _ _ (call (Value.ref 176) _ _) _ _ _); refine wpAny_call ?_; k_dflt (refine' first_code ?C hI (g₀ := g₀) ?hg ?hk ?he ?_; (case C => exact Rdy.le (Rd _ _ _ (by k_asm) News.nil) (by decide)); (case hg => exact Keep.of_all (fun b o e => Fr.keep (by k_asm) b o (hg₀.all b o e))); (case hk => assumption); (case he => assumption); k_whole); intro h5 tk5 v5 kp5 hR5; (have F5 := Keep.fr kp5 (by k_asm)); (have N5 := Keep.news kp5 (by k_asm)); (try dsimp only); (obtain ⟨rfl, hr5⟩ | ⟨c5, t5, rfl, hr5⟩ | ⟨l5, vs5, ep5, x5, xs5, rfl, hr5, hl5, hn5, hV5⟩ := hR5); rotate_right; (try (have hf5 : @Ne Nat f l5 := new_apart (by k_asm) (by k_mem) hn5)); (have N5 := Keep.add kp5 (by k_asm) (by k_asm) hl5 hn5); (have hs5 := first_size (by assumption) hr5 hV5); rotate_left)
  k_with "w_callb" => ((with_reducible show wpAny _ _ (call (Value.builtin "isinstance") [Value.ref _, Value.ref _]) _ _ _); k_dflt (refine' isi_call ?k1 ?k2 ?k3 ?k4 ?_; (case k1 => k_in); (case k2 => (intro M; exact inst_type (by k_asm) (by assumption) (by assumption))); (case k3 => k_is); (case k4 => intro e; cases e); k_whole))
  k_with "w_cmp" => ((with_reducible show wpAny _ _ (compareOp CmpOp.Eq (Value.ref _) (Value.ref _)) _ _ _); k_dflt (refine' eq_nil1 ?N ?a ?b ?hu ?_; (case N => k_asm); (case a => k_mem); (case b => k_mem); (case hu => exact (Rd _ _ _ (by k_asm) News.nil).units); k_whole))
  k_with "w_cmp" => ((with_reducible show wpAny _ _ (compareOp CmpOp.Is _ Value.none) _ _ _); k_dflt (refine' is_nil (by assumption) ?_; k_whole))
  k_with "w_callb" => ((with_reducible show wpAny _ _ (call (Value.builtin "list.extend") [Value.ref _, Value.ref _]) _ _ _); k_dflt (refine' kl_extend ?F ?N ?b rfl ?ne ?U ?d ?z ?y ?_; (case F => k_asm); (case N => k_asm); (case b => k_mem); (case ne => exact refs_ne (by assumption)); (case U => k_upd); (case d => exact extend_door (ext_ok (by assumption) (by assumption))); (case z => exact Nat.le_trans (Nat.le_add_right _ _) (ext_ok (b := 0) (by assumption) (by decide))); (case y => exact Nat.le_succ_of_le (ext_ok (by assumption) (by assumption))); k_whole); intro h8 F8 N8)
  k_with "w_callr" => ((with_reducible show wpAny _ _ (call (Value.ref 35) _ _) _ _ _); refine wpAny_call ?_; k_dflt (refine' has_meta_code ?C ?he ?hs ?_; (case C => exact Rdy.le (Rd _ _ _ (by k_asm) News.nil) (by decide)); (case he => assumption); (case hs => assumption); k_whole); intro h5 tk5 kp5; (have F5 := Keep.fr kp5 (by k_asm)); (have N5 := Keep.news kp5 (by k_asm)); (try dsimp only))
  k_with "w_callr" => ((with_reducible show wpAny _ _ (call (Value.ref 42) _ _) _ _ _); refine wpAny_call ?_; k_dflt (refine' without_code ?C ?he ?hs ?_; (case C => exact Rdy.le (Rd _ _ _ (by k_asm) News.nil) (by decide)); (case he => assumption); (case hs => assumption); k_whole); intro h5 tk5 kp5; (have F5 := Keep.fr kp5 (by k_asm)); (have N5 := Keep.news kp5 (by k_asm)); (try dsimp only))
  k_with "w_callr" => ((with_reducible show wpAny _ _ (call (Value.ref 49) [Value.ref _] _) _ _ _); refine wpAny_call ?_; (first | (k_dflt (refine' spread1_code ?C ?he ?hs ?_; (case C => exact Rdy.le (Rd _ _ _ (by k_asm) (News.only (by k_asm) (by k_mem))) (by decide)); (case he => assumption); (case hs => assumption); k_whole)) | (k_dflt (refine' spread2_code ?C ?he ?hs ?he2 ?hs2 ?_; (case C => exact Rdy.le (Rd _ _ _ (by k_asm) (News.only (by k_asm) (by k_mem))) (by decide)); (case he => assumption); (case hs => assumption); (case he2 => assumption); (case hs2 => assumption); k_whole))); intro h5 tk5 l5 ep5 kp5 hl5 hn5; (have F5 := Keep.fr kp5 (by k_asm)); (have N5 := Keep.add kp5 (by k_asm) (by k_asm) hl5 hn5); clear hn5; (try dsimp only))
  k_with "w_callr" => ((with_reducible show wpAny _ _ (call (Value.ref 183) _ _) _ _ _); refine wpAny_call ?_; k_dflt (refine' found_code ?C ?hI (g₀ := g₀) ?hg ?hl ?hV ?hz ?he ?_; (case C => exact Rdy.le (Rd _ _ _ (by k_asm) News.nil) (by decide)); (case hg => exact Keep.of_all (fun b o e => Fr.keep (by k_asm) b o (hg₀.all b o e))); (case hl => exact News.get (by k_asm) (by k_mem)); (case hV => assumption); (case hI => first | assumption | exact KC.inst); (case hz => assumption); (case he => assumption); k_whole); intro h5 tk5 v5 kp5 hR5; (have F5 := Keep.fr kp5 (by k_asm)); (have N5 := Keep.news kp5 (by k_asm)); (try dsimp only); (obtain ⟨rfl, hr5⟩ | ⟨c5, t5, rfl, hr5⟩ | ⟨l5, vs5, ep5, x5, xs5, rfl, hr5, hl5, hn5, hV5⟩ := hR5); rotate_right; (have N5 := Keep.add kp5 (by k_asm) (by k_asm) hl5 hn5); (try (have hz5 := next_size hV hz100 hr5 hV5)); rotate_left)
  k_with "w_callb" => ((with_reducible show wpAny _ _ (call (Value.type "list") [Value.ref _]) _ _ _); k_dflt (refine' list_copyK ?F ?N ?l ?_ ?z; (case F => k_asm); (case N => k_asm); (case l => exact ⟨_, Fr.keep (by k_asm) _ _ (by assumption), rfl, _, rfl⟩); (case z => assumption)); intro D' c' h' F' N' l1)
  k_with "w_exec" => ((with_reducible show wpAny _ _ (exec (Stmt.For (PySem.Expr.Tuple _ _ _) (PySem.Expr.Call (PySem.Expr.Name (Str.ofString "enumerate") _) _ _ _) _ _ _) _) _ _ _); (rename Fr _ _ _ _ => lF'); (with_unfolding_all refine' For_turns lF' ?_; k_whole))
  k_with "w_callb" => ((with_reducible show wpAny _ _ (call (Value.type "enumerate") [Value.ref _]) (fun _ _ => wpAny _ _ (pyIter _) (fun _ _ => TurnsAt _ _ _ _ _ _ _ _ _ _ _) _ _) _ _); (rename Fr _ _ _ _ => lF'); (rename News _ _ _ _ => lN'); (first | (with_unfolding_all refine enum_tuple (lo := tupOf #[_] _) (vs := [_]) (xs := [Itm.pair (fun t => Value.int (0 : Int) t) _]) (by rfl) lF' lN' (by k_mem) (by rfl) (by rfl) (by rfl) ?_) | (with_unfolding_all refine enum_tuple (lo := tupOf #[_, _] _) (vs := [_, _]) (xs := [Itm.pair (fun t => Value.int (0 : Int) t) _, Itm.pair (fun t => Value.int (1 : Int) t) _]) (by rfl) lF' lN' (by k_mem) (by rfl) (by rfl) (by rfl) ?_)); clear lF'; intro i' l1; (try k_lt l1))
  k_with "w_sub" => ((with_reducible show wpAny _ _ (subscriptTail _ _ (Value.ref _) _) _ _ _); k_dflt (refine' sub_g ?F ?hm ?hk ?hx ?_ ?s ?t; (case F => k_asm); (case hm => first | assumption | exact Heap.MapOf.grow (by assumption) hg₀.all); (case hk => first | assumption | exact kyIs_str _ _); (case hx => assumption); (case s => with_unfolding_all rfl); (case t => intro _; with_unfolding_all rfl); k_whole))
  k_with "w_exec" => ((with_reducible show wpAny _ _ (exec (Stmt.Assign [PySem.Expr.Name _ _] (PySem.Expr.ListComp _ _ _ _) _) _) _ _ _); refine Stop.out ?_)
  k_with "w_callr" => ((with_reducible show wpAny _ _ (call (Value.ref 259) _ _) _ _ _); refine wpAny_call ?_; k_dflt (refine' law_chain_code ?C (g₀ := g₀) ?hg ?hk ?_; (case C => exact Rdy.le (Rd _ _ _ (by k_asm) News.nil) (by decide)); (case hg => exact Keep.of_all (fun b o e => Fr.keep (by k_asm) b o (hg₀.all b o e))); (case hk => assumption); k_whole); intro h5 tk5 l5 vs5 ep5 kp5 hl5 hn5 hR5; (have F5 := Keep.fr kp5 (by k_asm)); (have N5 := Keep.add kp5 (by k_asm) (by k_asm) hl5 hn5); clear hn5; (try dsimp only))
  k_with "w_callb" => ((with_reducible show wpAny _ _ (call (Value.builtin "isinstance") [Value.ref _, Value.type "dict"]) _ _ _); k_dflt (refine' call_isinstance_yes (dict_type (f := ?f) ?F ?m) PySem.F.isi_meta_dict PySem.F.isi_self_dict ?_; (case F => k_asm); (case m => first | assumption | exact Heap.MapOf.grow (by assumption) hg₀.all); k_whole))
  k_with "w_callr" => ((with_reducible show wpAny _ _ (call (Value.ref 264) _ _) _ _ _); refine wpAny_call ?_; k_dflt (refine' law_one_code ?C ?hD (g₀ := g₀) ?hg ?hk ?he ?_; (case C => exact Rdy.le (Rd _ _ _ (by k_asm) News.nil) (by decide)); (case hg => exact Keep.of_all (fun b o e => Fr.keep (by k_asm) b o (hg₀.all b o e))); (case hk => assumption); (case hD => first | assumption | exact OC.dic); (case he => assumption); k_whole); intro h5 tk5 v5 kp5 hR5; (have F5 := Keep.fr kp5 (by k_asm)); (have N5 := Keep.news kp5 (by k_asm)); (try dsimp only); (obtain ⟨rfl, hr5⟩ | ⟨c5, t5, rfl, hr5⟩ | ⟨l5, vs5, ep5, x5, xs5, rfl, hr5, hl5, hn5, hV5⟩ := hR5); rotate_right; (try (have hf5 := new_apart (by k_asm) (List.Mem.head _) hn5)); (have N5 := Keep.add kp5 (by k_asm) (by k_asm) hl5 hn5); (have hs5 := ofirst_size (by assumption) hr5 hV5); rotate_left)
  k_with "w_set" => ((with_reducible show wpAny _ _ (setItem (Value.ref _) _ _) _ _ _); k_dflt (refine' kda_set (knd := mix RP _) ?myF ?myN ?myU ?myd ?myk ?myz ?_; (case myF => k_asm); (case myN => k_asm); (case myU => k_updF); (case myd => k_asm); (case myk => first | exact mix_int _ _ | exact mix_str _ _ | assumption); (case myz => first | assumption | exact Nat.zero_le _ | (rw [sizeLine_eq]; omega)); k_whole); intro h8 o8 F8 N8 hd8; (try dsimp only at N8))
  k_with "w_callr" => ((with_reducible show wpAny _ _ (call (Value.ref 122) _ _) _ _ _); k_dflt (refine' new_km ?myF ?myN ?myX ?myn ?myR ?_; (case myF => k_asm); (case myN => k_asm); (case myX => k_asm); (case myR => exact Rd); (case myn => first | decide | omega); k_whole); intro x5 dx5 r5 ro5 h5 tk5 hA5 hB5 hC5 hD5 hE5 tA5 tB5 tC5 tD5 tE5 tF5 F5 N5 l5 l6 l7 hd5 lo5; (try k_lt l5))
  k_with "w_callr" => ((with_reducible show wpAny _ _ (call (Value.ref 245) _ _) _ _ _); k_dflt (refine' draw_here ?myF ?myN ?myU ?myR ?myk ?myhl ?myhi ?mylen ?myne ?mya ?myb ?myc ?myd ?_; (case myF => k_asm); (case myN => k_asm); (case myU => k_updF); (case myR => exact Rd); (case myk => first | decide | omega); (case myhl => first | exact Fr.lst (by k_asm) (by assumption) | exact ⟨_, News.get (by k_asm) (by k_mem), rfl, _, rfl⟩); (case myhi => assumption); (case mylen => assumption); (case myne => first | assumption | omega); (case mya => first | k_extra "my_nn" | omega); (case myb => first | k_extra "my_up" | omega); (case myc => decide); (case myd => decide); k_whole); intro v5 tv5 t5 e5 h5 tk5 lo5 hi5 F5 N5; (try dsimp only at N5))
  k_with "w_callr" => ((with_reducible show wpAny _ _ (call (Value.ref 105) _ _) _ _ _); k_dflt (refine' put_here ?myF ?myN ?myx ?mydx ?myU ?myR ?myn ?myro ?myz ?myk ?mya ?myb ?_; (case myF => k_asm); (case myN => k_asm); (case myx => k_mem); (case mydx => k_mem); (case myU => k_updF); (case myR => exact Rd); (case myn => first | decide | omega); (case myro => k_asm); (case myz => first | assumption | exact Nat.zero_le _ | (rw [sizeLine_eq]; omega)); (case myk => first | exact kyIs_int _ _ | exact kyIs_str _ _ | assumption); (case mya => first | assumption | omega); (case myb => first | assumption | omega); k_whole); intro h5 tk5 ro5 F5 N5 hd5; (try dsimp only at N5))
  k_with "w_callr" => ((with_reducible show wpAny _ _ (call (Value.ref 119) _ _) _ _ _); k_dflt (refine' setdef_here ?myF ?myN ?myx ?myU ?myR ?myn ?myl ?myh ?_; (case myF => k_asm); (case myN => k_asm); (case myx => k_mem); (case myU => k_updF); (case myR => exact Rd); (case myn => first | decide | omega); (case myl => first | assumption | omega); (case myh => rfl); k_whole); intro h5 tk5 F5 N5; (try dsimp only at N5))
  k_with "w_cmp" => ((with_reducible show wpAny _ _ (compareOp CmpOp.In _ (Value.ref _)) _ _ _); k_dflt (refine' kda_in (knd := mix RP _) ?myN ?myp ?myd ?mylo ?myk _ ?myb ?_; (case myN => k_asm); (case myp => k_mem); (case myd => k_asm); (case mylo => k_asm); (case myk => first | exact mix_int _ _ | exact mix_str _ _ | assumption); (case myb => first | exact stored_has | exact isSome_none (by assumption)); k_whole))
  k_with "w_sub" => ((with_reducible show wpAny _ _ (subscriptTail _ _ (Value.ref _) (Value.str _ _)) _ _ _); k_dflt (refine kda_item (knd := PySem.strKind _ _) (by k_asm) (by k_mem) (by k_asm) (strKind_is _ _ _ _) (by rfl) ?_); (try dsimp only))
  k_with "w_sub" => ((with_reducible show wpAny _ _ (subscriptTail _ _ (Value.ref _) (Value.int _ _)) _ _ _); k_dflt (refine' item_menu (P := fun v => ∃ c, VD v c) ?myN ?mym ?mya ?myb ?myc ?myp ?_ ?mys; (case myN => k_asm); (case mym => k_mem); (case mya => omega); (case myb => (simp only [List.length_cons, List.length_nil]; omega)); (case myc => (simp only [List.length_cons, List.length_nil]; omega)); (case mys => with_unfolding_all rfl); (case myp => (intro x hx; simp only [List.mem_cons, List.not_mem_nil, or_false] at hx; (rcases hx with rfl | rfl | rfl | rfl) <;> first | exact ⟨none, trivial⟩ | exact ⟨some _, rfl⟩)); k_whole); intro bv5 hv5; (obtain ⟨c5, hc5⟩ := hv5))
  k_with "w_exec" => ((with_reducible show wpAny _ _ (exec (Stmt.For (PySem.Expr.Name _ _) (PySem.Expr.Tuple _ _ _) _ _ _) _) _ _ _); refine Stop.out ?_)
  k_with "w_callr" => ((with_reducible show wpAny _ _ (call (Value.ref 252) _ _) _ _ _); refine Stop.out ?_)
  k_with "w_set" => ((with_reducible show wpAny _ _ (setItem (Value.ref _) (Value.str _ _) _) _ _ _); k_dflt (refine' kda_set (knd := PySem.strKind _ _) ?myF ?myN ?myU ?myd (strKind_is _ _ _ _) ?myz ?_; (case myF => k_asm); (case myN => k_asm); (case myU => k_updF); (case myd => k_asm); (case myz => (rw [sizeLine_eq]; exact Nat.le_of_ble_eq_true (by with_unfolding_all rfl))); k_whole); intro h8 o8 F8 N8 hd8; (try first | (replace hd8 := isdict_dflt hd8) | (replace hd8 := isdict_parent hd8)); (try dsimp only at N8))
  k_with "w_cmp" => ((with_reducible show wpAny _ _ (compareOp CmpOp.NotEq (Value.ref _) (Value.ref _)) _ _ _); k_dflt (refine' ne_nil1 ?myN ?mya ?myb ?myu ?_; (case myN => k_asm); (case mya => k_mem); (case myb => k_mem); (case myu => exact (Rd _ _ _ (by k_asm) News.nil).units); k_whole))
  k_with "w_eval" => ((with_reducible show wpAny _ _ (eval (PySem.Expr.IfExp (PySem.Expr.Compare _ _ _ _) (PySem.Expr.Subscript (PySem.Expr.Subscript _ _ _) _ _) _ _) _) _ _ _); (fail_if_success (rename IfGo => hGo9)); refine Stop.out ?_)
  k_with "w_callr" => ((with_reducible show wpAny _ _ (call (Value.ref 203) _ _) _ _ _); refine Stop.out ?_)
  k_with "w_callr" => ((with_reducible show wpAny _ _ (call (Value.ref 210) _ _) _ _ _); refine Stop.out ?_)
  k_with "w_callr" => ((with_reducible show wpAny _ _ (call (Value.ref 231) _ _) _ _ _); refine Stop.out ?_)
  k_with "w_callr" => ((with_reducible show wpAny _ _ (call (Value.ref 278) _ _) _ _ _); refine Stop.out ?_)
  k_with "w_callr" => ((with_reducible show wpAny _ _ (call (Value.ref 234) _ _) _ _ _); k_dflt (refine' new_ak ?myF ?myN ?myX ?myn ?myR ?_; (case myF => k_asm); (case myN => k_asm); (case myX => k_asm); (case myR => exact Rd); (case myn => first | decide | omega); k_whole); intro x5 dx5 h5 tk5 hA5 tA5 F5 N5 l5 l6; (try k_lt l5))
  k_with "w_callb" => ((with_reducible show wpAny _ _ (call (Value.type "zip") _ _) _ _ _); refine Stop.out ?_)
  k_with "w_exec" => ((first | (with_reducible show wpAny _ _ (exec (Stmt.Assign _ _ _) _) _ _ _) | (with_reducible show wpAny _ _ (exec (Stmt.Expr _ _) _) _ _ _) | (with_reducible show wpAny _ _ (exec (Stmt.If _ _ _ _) _) _ _ _) | (with_reducible show wpAny _ _ (exec (Stmt.Return _ _) _) _ _ _)); k_fold)
  k_with "w_eval" => ((with_reducible show wpAny _ _ (eval (PySem.Expr.Call (PySem.Expr.Name _ _) _ _ _) _) _ _ _); k_here; (refine Call_ ?_); first | k_dflt (refine' nameX_K ?myF ?myX ?myT ?mye ?_ ?mya ?myb; (case myF => k_asm); (case myX => k_asm); (case myT => k_asm); (case mya => rfl); (case myb => rfl); (case mye => k_is); k_whole) | k_dflt (refine' nameX_B ?myF ?myX ?myT ?mye ?myv ?myn ?_ ?mya ?myb; (case myF => k_asm); (case myX => k_asm); (case myT => k_asm); (case mya => rfl); (case myb => rfl); (case mye => k_is); (case myv => boot_fast); (case myn => decide); k_whole) | fail "my_call")
  k_with "w_sub" => ((with_reducible show wpAny _ _ (subscriptTail _ _ (Value.ref _) (Value.int _ _)) _ _ _); (fail_if_success (rename IntsAre _ _ => hx9)); first | (with_reducible (k_here; kim_at)) | (with_reducible (k_here; (with_unfolding_all refine' item_litK ?myk1 ?myk2 ?myk3 ?myk4 ?_ ?myk6; (case myk1 => is_list); (case myk2 => decide); (case myk3 => decide); (case myk4 => rfl); (case myk6 => with_unfolding_all rfl); k_whole))) | fail "w_sub")
  k_with "walk" => ((fail_if_success (fail_if_success (with_reducible show wpAny _ _ (setItem _ _ _) _ _ _))); k_extra "w_set")
  k_with "walk" => ((fail_if_success (fail_if_success (with_reducible show wpAny _ _ (pyIter _) _ _ _))); k_extra "w_iter")
  k_with "walk" => ((fail_if_success (fail_if_success (with_reducible show wpAny _ _ (subscriptTail _ _ _ _) _ _ _))); k_extra "w_sub")
  k_with "walk" => ((fail_if_success (fail_if_success (with_reducible show wpAny _ _ (compareOp _ _ _) _ _ _))); k_extra "w_cmp")
  k_with "walk" => ((fail_if_success (fail_if_success (with_reducible show wpAny _ _ (call _ _ _) _ _ _))); k_extra "w_call")
  k_with "walk" => ((fail_if_success (fail_if_success (with_reducible show wpAny _ _ (exec _ _) _ _ _))); k_extra "w_exec")
  k_with "walk" => ((fail_if_success (fail_if_success (with_reducible show wpAny _ _ (eval _ _) _ _ _))); k_extra "w_eval")
  k_with "walk" => ((with_reducible show wpAny _ _ (binaryOp _ (Value.ref _) (Value.ref _)) _ _ _); (fail_if_success (rename IntsAre _ _ => hx9)); (refine add_lists (by assumption) (by assumption) (by is_list) (by is_list) ?_; intro _ _ _))
  k_with "w_call" => (k_extra "w_callb")
  k_with "w_call" => ((fail_if_success (fail_if_success (with_reducible show wpAny _ _ (call (Value.ref _) _ _) _ _ _))); k_extra "w_callr")
  k_with "walk" => ((with_reducible show wpAny _ _ (execs (_ :: _) _) _ _ _); k_fold)
  trivial

set_option maxHeartbeats 8000000
theorem is_bound_code {w : World} {A : Around} {s : Shared} {R : Result → Shared → Prop} {k dx r : Addr} {h1 h2 h3 h4 h5 : Int} {t1 t2 t3 t4 t5 tp : Tok} {b : Bool} {dv pv v : Value} {f : Ky → Option Value} {e : Ky}
    (C : Rdy w A 3 s.heap []) {g₀ : Heap} (hg₀ : Keep [] g₀ s.heap) (hk : g₀.get? k = some (instObj 122 dx)) (hx : g₀.get? dx = some (kmDict h1 h2 h3 h4 h5 t1 t2 t3 t4 t5 tp r b dv pv)) (hm : g₀.MapOf (mix RP w) r f) (hr : (r == sysModules) = false)
    (he : kyIs e v = true)
    (ret : ∀ (h' : Heap) (tk' : Nat), Keep [] s.heap h' → R (.ok (.ret (.bool (f e).isSome))) { s with heap := h', toks := tk' }) :
    codeAny (model RP w) A (.call (.ref 91) ⟨[.ref k, v], []⟩) R s := by
  refine' enter (n := 2) (fun p => methAt p 11 1) (binds := [(PySem.Str.ofString "self", .ref k), (PySem.Str.ofString "event", v)]) (PySem.Str.ofString "Keymap.is_bound") C ?ho ?h1 ?h2 ?hq ?hcd ?hbind ?hloc ?hco ?hgen ?hk ?hcell ?_
  k_extra "my_enter"
  intro A₁ g L' h₁ tk mean mg mb hg Rd F N X T
  obtain rfl : g = s.heap := hg
  clear C
  k_steps
  all_goals (try dsimp only)
  with_reducible rename Fr _ _ _ _ => F9
  exact ret _ _ (Keep.of_all F9.keep)

theorem own_code {w : World} {A : Around} {s : Shared} {R : Result → Shared → Prop} {k dx r : Addr} {h1 h2 h3 h4 h5 : Int} {t1 t2 t3 t4 t5 tp : Tok} {b : Bool} {dv pv v : Value} {f : Ky → Option Value} {e : Ky}
    (C : Rdy w A 3 s.heap []) {g₀ : Heap} (hg₀ : Keep [] g₀ s.heap) (hk : g₀.get? k = some (instObj 122 dx)) (hx : g₀.get? dx = some (kmDict h1 h2 h3 h4 h5 t1 t2 t3 t4 t5 tp r b dv pv)) (hm : g₀.MapOf (mix RP w) r f) (hr : (r == sysModules) = false)
    (he : kyIs e v = true)
    (ret : ∀ (h' : Heap) (tk' : Nat), Keep [] s.heap h' → R (.ok (.ret ((f e).getD .none))) { s with heap := h', toks := tk' }) :
    codeAny (model RP w) A (.call (.ref 98) ⟨[.ref k, v], []⟩) R s := by
  refine' enter (n := 2) (fun p => methAt p 11 2) (binds := [(PySem.Str.ofString "self", .ref k), (PySem.Str.ofString "event", v)]) (PySem.Str.ofString "Keymap.own") C ?ho ?h1 ?h2 ?hq ?hcd ?hbind ?hloc ?hco ?hgen ?hk ?hcell ?_
  k_extra "my_enter"
  intro A₁ g L' h₁ tk mean mg mb hg Rd F N X T
  obtain rfl : g = s.heap := hg
  clear C
  k_steps
  all_goals (try dsimp only)
  with_reducible rename Fr _ _ _ _ => F9
  exact ret _ _ (Keep.of_all F9.keep)

noncomputable def KL {α : Type} (w : World) (R : Heap → Addr → α → Prop) (h : Heap) (a : Addr) (l : Lv α) : Prop := ∃ pv, K1 w R h a pv l

noncomputable def Nx {α : Type} (w : World) (RR : Heap → Addr → α → Prop) (h : Heap) (v : Value) (rem : Ch α) : Prop := (v = .none ∧ rem = []) ∨ ∃ k', v = .ref k' ∧ KC w RR h k' rem
theorem Nx.step {α : Type} {w : World} {RR : Heap → Addr → α → Prop} {h : Heap} {k : Addr} {rem : Ch α} (x : KC w RR h k rem) : ∃ l1 rest pv, rem = l1 :: rest ∧ K1 w RR h k pv l1 ∧ Nx w RR h pv rest := by
  match rem, x with
  | [l1], x => exact ⟨l1, [], _, rfl, x, .inl ⟨rfl, rfl⟩⟩
  | [l1, l2], ⟨k2, x, y⟩ => exact ⟨l1, [l2], _, rfl, x, .inr ⟨k2, rfl, y⟩⟩

theorem KC.len {α : Type} {w : World} {RR : Heap → Addr → α → Prop} {h : Heap} {k : Addr} {rem : Ch α} (x : KC w RR h k rem) : rem.length ≤ 2 := by
  match rem, x with
  | [l1], _ => exact Nat.le_succ 1
  | [l1, l2], _ => exact Nat.le_refl 2
theorem fits {vs : List Value} {n : Nat} (h : vs.length ≤ n) (h' : n ≤ 16777216) : vs.toArray.size ≤ sizeLine := by
  rw [List.size_toArray, sizeLine_eq]; omega

theorem fits' {α : Type} {xs : List α} {vs : Array Value} {n : Nat} (h : xs.length ≤ n) (h' : vs.toList.length = xs.length) (hn : n ≤ 16777216 := by decide) : vs.size ≤ sizeLine := by
  rw [sizeLine_eq, ← Array.length_toList]; omega

inductive ChainJ {α : Type} (w : World) (RR : Heap → Addr → α → Prop) (h : Heap) (l : Addr) (ch : Ch α) (n : Nat) (m : Str → Option Value) (news : List (Addr × Obj)) : Prop
  | mk (pre rem : Ch α) (dn : List Value) (v : Value) (ep : Nat) (a1 : n = rem.length) (a2 : pre ++ rem = ch) (a3 : m (PySem.Str.ofString "keymap") = some v) (a4 : m (PySem.Str.ofString "found") = some (.ref l))
      (a5 : news = [(l, PySem.W.listOf dn.toArray ep)]) (a6 : Refs (KL w RR) h dn pre) (a7 : Nx w RR h v rem)

theorem chain_code {α : Type} {RR : Heap → Addr → α → Prop} {w : World} {A : Around} {s : Shared} {R : Result → Shared → Prop} {k : Addr} {ch : Ch α}
    (C : Rdy w A 3 s.heap []) {g₀ : Heap} (hg₀ : Keep [] g₀ s.heap) (hk : KC w RR g₀ k ch) 
    (ret : ∀ (h' : Heap) (tk' : Nat) l vs ep, Keep [] s.heap h' → h'.get? l = some (PySem.W.listOf vs ep) → s.heap.get? l = none → Refs (KL w RR) g₀ vs.toList ch → R (.ok (.ret (.ref l))) { s with heap := h', toks := tk' }) :
    codeAny (model RP w) A (.call (.ref 140) ⟨[.ref k], []⟩) R s := by
  refine' enter (n := 2) (fun p => defAt p 13) (binds := [(PySem.Str.ofString "keymap", .ref k)]) (PySem.Str.ofString "chain_of") C ?ho ?h1 ?h2 ?hq ?hcd ?hbind ?hloc ?hco ?hgen ?hk ?hcell ?_
  k_extra "my_enter"
  intro A₁ g L' h₁ tk mean mg mb hg Rd F N X T
  obtain rfl : g = s.heap := hg
  clear C
  k_steps
  rename_i l h2 _ h3 F2 N2
  refine Stop.go ?_
  have hl : s.heap.get? l = none := N2.fresh (List.Mem.head _)
  refine While_inv2 (L := L') (J := ChainJ w RR g₀ l ch) (n₀ := ch.length) F2 N2 ?J ?turn
  · exact .mk [] ch [] (.ref k) 0 rfl rfl rfl rfl rfl trivial (.inr ⟨k, rfl, hk⟩)
  · rintro n m₁ news₁ h₄ tk₁ F₁ N₁ ⟨pre, rem, dn, v, ep, rfl, rfl, hv, hf, rfl, hdn, hr⟩
    rw [m_at hv, m_at hf] at F₁
    rcases hr with ⟨rfl, rfl⟩ | ⟨k', rfl, hr⟩
    · k_unmd; try k_fold
      k_steps
      with_reducible rename Fr _ _ _ _ => F9
      with_reducible rename News _ _ _ _ => N9
      exact ret _ _ l _ _ (Keep.of_all F9.keep) (N9 _ (List.Mem.head _)).1 hl (by simpa using hdn)
    · obtain ⟨l1, rest, pv, rfl, hK, hn⟩ := Nx.step hr
      have hKL : KL w RR g₀ k' l1 := ⟨pv, hK⟩
      have hh : handedIn pv = true := by rcases hn with ⟨rfl, _⟩ | ⟨_, rfl, _⟩ <;> rfl
      have hz : dn.toArray.size ≤ sizeLine := fits (n := 2) (by have h1 := KC.len hk; have h2 := Refs.length hdn; simp at h1; omega) (by decide)
      obtain ⟨dx, r, h1, h2, h3, h4, h5, t1, t2, t3, t4, t5, tp, dv, f, a1, a2, a3, a4, a5, a6⟩ := hK
      k_unmd; try k_fold
      k_steps
      with_reducible rename Fr _ _ _ _ => F9
      with_reducible rename News _ _ _ _ => N9
      exact ⟨_, _, _, _, rest.length, rfl, F9, N9, by simp, .mk (pre ++ [l1]) rest (dn ++ [.ref k']) pv (ep + 1) rfl (by simp) rfl rfl (by simp) (Refs.append hdn ⟨⟨_, rfl, hKL⟩, trivial⟩) hn⟩

theorem rows_step {α : Type} {RR : Heap → Addr → α → Prop} {h : Heap} {ch : Ch α} {e : Ky} {i : Nat} {ys : List Value} {l : Lv α} {o : Option Value} (hl : ch[i]? = some l) (ho : VO RR h o (l.rows e)) (hj : Vals RR h ys (rowsOf (ch.take i) e)) :
    (∀ x, o = some x → Vals RR h (ys ++ [x]) (rowsOf (ch.take (i + 1)) e)) ∧ (o = none → Vals RR h ys (rowsOf (ch.take (i + 1)) e)) := by
  have e1 : rowsOf (ch.take (i + 1)) e = rowsOf (ch.take i) e ++ (l.rows e).toList := by
    unfold rowsOf
    rw [List.take_add_one, hl, List.filterMap_append]
    cases q : l.rows e <;> simp [q]
  rw [e1]
  cases o with
  | none => cases q : l.rows e with
    | none => exact ⟨fun _ h => (nomatch h), fun _ => by simpa using hj⟩
    | some b => rw [q] at ho; exact ho.elim
  | some x => cases q : l.rows e with
    | none => rw [q] at ho; exact ho.elim
    | some b => rw [q] at ho; exact ⟨fun y hy => by cases hy; exact Vals.snoc ho hj, fun h => (nomatch h)⟩

inductive RowsJ {α : Type} (RR : Heap → Addr → α → Prop) (h : Heap) (ch : Ch α) (e : Ky) (i : Nat) (ys : List Value) (h' : Heap) : Prop
  | mk (a1 : Vals RR h ys (rowsOf (ch.take i) e))

theorem rows_code {α : Type} {RR : Heap → Addr → α → Prop} {w : World} {A : Around} {s : Shared} {R : Result → Shared → Prop} {k : Addr} {ch : Ch α} {e : Ky} {v : Value}
    (C : Rdy w A 5 s.heap []) {g₀ : Heap} (hg₀ : Keep [] g₀ s.heap) (hk : KC w RR g₀ k ch) (he : kyIs e v = true)
    (ret : ∀ (h' : Heap) (tk' : Nat) l vs ep, Keep [] s.heap h' → h'.get? l = some (PySem.W.listOf vs ep) → s.heap.get? l = none → Vals RR g₀ vs.toList (rowsOf ch e) → R (.ok (.ret (.ref l))) { s with heap := h', toks := tk' }) :
    codeAny (model RP w) A (.call (.ref 150) ⟨[.ref k, v], []⟩) R s := by
  refine' enterC (n := 4) (fun p => defAt p 20) (binds := [(PySem.Str.ofString "keymap", .ref k), (PySem.Str.ofString "event", v)]) (PySem.Str.ofString "rows_along") C ?ho ?h1 ?h2 ?hq ?hcd ?hbind ?hkind ?hnd ?hco ?hgen ?hk ?_
  k_extra "my_enterC"
  intro A₁ g L' h₁ tk cells mean mg mb hg Rd F N Y X T
  obtain rfl : g = s.heap := hg
  clear C
  obtain ⟨o, rfl, hc⟩ := CellsAre.one Y
  k_steps
  refine Stop.go ?_
  k_unmd; try k_fold
  refine comp_J (cl := [(PySem.Str.ofString "event", L' + 1)]) ?hclos ?hcell ?hkind ?hnames ?hx ?hs ?_
  case hclos => with_unfolding_all rfl
  case hcell => decide
  case hkind => exact rfl
  case hnames => decide
  case hx => exact rfl
  case hs => intro _; with_unfolding_all rfl
  k_steps
  try refine Stop.go ?_
  refine Blk.list (Rd _ _ _ F N).handled [] (RowsJ RR g₀ ch e) hl5 (fits' (KC.len hk) (Refs.length hR5)) (fun _ h => nomatch h) (fun h => nomatch h) (fun _ _ _ _ j _ => ⟨j.1⟩) ⟨trivial⟩ ?turn ?done
  case turn =>
    intro i vx ys h6 tk6 m6 E6 hv6 hj6 hn6 hm6 kp6
    obtain ⟨a, l, rfl, hl6, pv, dx, r, h1, h2, h3, h4, h5', t1, t2, t3, t4, t5, tp, dv, f, a1, a2, a3, a4, a5, a6⟩ := Refs.get hR5 (by simpa using hv6)
    have F6 := Keep.fr kp6 F5
    have hc6 : h6.IsCell (L' + 1) (some v) := ⟨o, kp6.all _ _ (News.get N5 (.tail _ (.head _))), hc⟩
    have kt : Keep [] h6 h6 := Keep.refl _ _
    have st := rows_step hl6 (a5 e) hj6.1
    k_unmd; try k_fold
    refine tests_one ?_
    k_steps
    · rename Option.isSome _ = true => hb
      obtain ⟨x, hx⟩ := Option.isSome_iff_exists.mp hb
      rw [hx]
      exact TEnd.mk kt ⟨st.1 x hx⟩
    · rename Option.isSome _ = false => hb
      exact TEnd.mk kt ⟨st.2 (Option.not_isSome_iff_eq_none.mp (by rw [hb]; exact Bool.false_ne_true))⟩
  case done =>
    intro h6 tk6 ys ep6 hl6 hle6 hj6 kp6
    have hch : ch.take vs5.size = ch := List.take_of_length_le (by rw [← Refs.length hR5, Array.length_toList]; exact Nat.le_refl _)
    have hj := hj6.1
    rw [hch] at hj
    exact ret _ _ _ _ _ ((Keep.of_all F5.keep).trans kp6) hl6 (by
      cases q : s.heap.get? (h5.objs.size + 1) with
      | none => rfl
      | some o => exact absurd (nlt (F5.keep _ _ q)) (by omega)) (by simpa using hj)

inductive DfltJ {α : Type} (RR : Heap → Addr → α → Prop) (h : Heap) (ch : Ch α) (i : Nat) (ys : List Value) (h' : Heap) : Prop
  | mk (a1 : Vals RR h ys ((dfltsOf (ch.take i)).map .cmd))

theorem dflt_step {α : Type} {RR : Heap → Addr → α → Prop} {h : Heap} {ch : Ch α} {i : Nat} {ys : List Value} {l : Lv α} {dv : Value} (hl : ch[i]? = some l) (hd : VD dv l.dflt) (hj : Vals RR h ys ((dfltsOf (ch.take i)).map .cmd)) :
    (l.dflt.isSome = true → Vals RR h (ys ++ [dv]) ((dfltsOf (ch.take (i + 1))).map .cmd)) ∧ (l.dflt.isSome = false → Vals RR h ys ((dfltsOf (ch.take (i + 1))).map .cmd)) := by
  have e1 : dfltsOf (ch.take (i + 1)) = dfltsOf (ch.take i) ++ l.dflt.toList := by
    unfold dfltsOf
    rw [List.take_add_one, hl, List.filterMap_append]
    cases q : l.dflt <;> simp [q]
  rw [e1]
  cases q : l.dflt with
  | none => exact ⟨fun h => (nomatch h), fun _ => by simpa using hj⟩
  | some c =>
    refine ⟨fun _ => ?_, fun h => (nomatch h)⟩
    rw [List.map_append]
    refine Vals.snoc ?_ hj
    rw [q] at hd
    cases dv <;> first | exact hd | exact hd.elim

theorem dflts_code {α : Type} {RR : Heap → Addr → α → Prop} {w : World} {A : Around} {s : Shared} {R : Result → Shared → Prop} {k : Addr} {ch : Ch α}
    (C : Rdy w A 5 s.heap []) {g₀ : Heap} (hg₀ : Keep [] g₀ s.heap) (hk : KC w RR g₀ k ch)
    (ret : ∀ (h' : Heap) (tk' : Nat) l vs ep, Keep [] s.heap h' → h'.get? l = some (PySem.W.listOf vs ep) → s.heap.get? l = none → Vals RR g₀ vs.toList ((dfltsOf ch).map .cmd) → R (.ok (.ret (.ref l))) { s with heap := h', toks := tk' }) :
    codeAny (model RP w) A (.call (.ref 155) ⟨[.ref k], []⟩) R s := by
  refine' enter (n := 4) (fun p => defAt p 21) (binds := [(PySem.Str.ofString "keymap", .ref k)]) (PySem.Str.ofString "defaults_along") C ?ho ?h1 ?h2 ?hq ?hcd ?hbind ?hloc ?hco ?hgen ?hk ?hcell ?_
  k_extra "my_enter"
  intro A₁ g L' h₁ tk mean mg mb hg Rd F N X T
  obtain rfl : g = s.heap := hg
  clear C
  k_steps
  refine Stop.go ?_
  k_unmd; try k_fold
  refine comp_J (cl := []) ?hclos ?hcell ?hkind ?hnames ?hx ?hs ?_
  case hclos => with_unfolding_all rfl
  case hcell => decide
  case hkind => exact rfl
  case hnames => decide
  case hx => exact rfl
  case hs => intro _; with_unfolding_all rfl
  k_steps
  try refine Stop.go ?_
  refine Blk.list (Rd _ _ _ F N).handled [] (DfltJ RR g₀ ch) hl5 (fits' (KC.len hk) (Refs.length hR5)) (fun _ h => nomatch h) (fun h => nomatch h) (fun _ _ _ _ j _ => ⟨j.1⟩) ⟨trivial⟩ ?turn ?done
  case turn =>
    intro i vx ys h6 tk6 m6 E6 hv6 hj6 hn6 hm6 kp6
    obtain ⟨a, l, rfl, hl6, pv, dx, r, h1, h2, h3, h4, h5', t1, t2, t3, t4, t5, tp, dv, f, a1, a2, a3, a4, a5, a6⟩ := Refs.get hR5 (by simpa using hv6)
    have F6 := Keep.fr kp6 F5
    have kt : Keep [] h6 h6 := Keep.refl _ _
    have st := dflt_step hl6 a6 hj6.1
    have hh : handedIn dv = true := by
      cases dv <;> first | rfl | (cases q : l.dflt <;> rw [q] at a6 <;> exact a6.elim)
    k_unmd; try k_fold
    refine tests_one ?_
    k_steps
    · rename Option.isSome _ = true => hb
      exact TEnd.mk kt ⟨st.1 hb⟩
    · rename Option.isSome _ = false => hb
      exact TEnd.mk kt ⟨st.2 hb⟩
  case done =>
    intro h6 tk6 ys ep6 hl6 hle6 hj6 kp6
    have hch : ch.take vs5.size = ch := List.take_of_length_le (by rw [← Refs.length hR5, Array.length_toList]; exact Nat.le_refl _)
    have hj := hj6.1
    rw [hch] at hj
    exact ret _ _ _ _ _ ((Keep.of_all F5.keep).trans kp6) hl6 (by
      cases q : s.heap.get? (h5.objs.size + 1) with
      | none => rfl
      | some o => exact absurd (nlt (F5.keep _ _ q)) (by omega)) (by simpa using hj)

theorem dflts_size {α : Type} {RR : Heap → Addr → α → Prop} {w : World} {g₀ : Heap} {k : Addr} {ch : Ch α} {vs : Array Value} (hk : KC w RR g₀ k ch) (h : Vals RR g₀ vs.toList ((dfltsOf ch).map .cmd)) : vs.size ≤ sizeLine := by
  have h1 := h.length
  have h2 := KC.len hk
  have h3 : (dfltsOf ch).length ≤ ch.length := List.length_filterMap_le _ _
  rw [List.length_map, Array.length_toList] at h1
  rw [sizeLine_eq]; omega
theorem Vals.take1 {α : Type} {RR : Heap → Addr → α → Prop} {h : Heap} : ∀ {vs : List Value} {bs : List (Bd α)}, Vals RR h vs bs → Vals RR h (vs.take 1) (bs.take 1)
  | [], [], _ => trivial
  | _ :: _, _ :: _, ⟨e, _⟩ => ⟨e, trivial⟩
theorem pick1 (vs : Array Value) : (slicePick vs none (some 1) none).toList = vs.toList.take 1 := by
  rw [kms_pick_eq]
  unfold kms_pick kms_lo kms_hi
  simp
theorem binds_end {α : Type} {RR : Heap → Addr → α → Prop} {h : Heap} {ch : Ch α} {e : Ky} {vs : Array Value} (hV : Vals RR h vs.toList (rowsOf ch e)) :
    ((vs.size == 0) = true → ∀ us : Array Value, Vals RR h us.toList ((dfltsOf ch).map .cmd) → Vals RR h (slicePick us none (some 1) none).toList (bindsOf ch e true)) ∧
    ((vs.size == 0) = true → Vals RR h vs.toList (bindsOf ch e false)) ∧ ((vs.size == 0) = false → ∀ td, Vals RR h vs.toList (bindsOf ch e td)) := by
  have nil : (vs.size == 0) = true → rowsOf ch e = [] := fun q => by
    have := hV.length
    rw [Array.length_toList, beq_iff_eq.mp q] at this
    exact List.length_eq_zero_iff.mp this.symm
  refine ⟨fun q us hU => ?_, fun q => ?_, fun q td => ?_⟩
  · rw [pick1]
    unfold bindsOf
    rw [nil q]
    rw [List.map_take]
    exact Vals.take1 hU
  · unfold bindsOf
    rw [nil q] at hV ⊢
    exact hV
  · unfold bindsOf
    cases q2 : rowsOf ch e with
    | nil =>
      rw [q2] at hV
      have := hV.length
      rw [Array.length_toList] at this
      rw [this] at q
      exact absurd q (by simp)
    | cons b r => rw [q2] at hV; exact hV

theorem binds_code {α : Type} {RR : Heap → Addr → α → Prop} {w : World} {A : Around} {s : Shared} {R : Result → Shared → Prop} {k : Addr} {ch : Ch α} {e : Ky} {v : Value} {td : Bool}
    (C : Rdy w A 7 s.heap []) {g₀ : Heap} (hg₀ : Keep [] g₀ s.heap) (hk : KC w RR g₀ k ch) (he : kyIs e v = true)
    (ret : ∀ (h' : Heap) (tk' : Nat) l vs ep, Keep [] s.heap h' → h'.get? l = some (PySem.W.listOf vs ep) → s.heap.get? l = none → Vals RR g₀ vs.toList (bindsOf ch e td) → R (.ok (.ret (.ref l))) { s with heap := h', toks := tk' }) :
    codeAny (model RP w) A (.call (.ref 162) ⟨[.ref k, v, .bool td], []⟩) R s := by
  refine' enter (n := 6) (fun p => defAt p 22) (binds := [(PySem.Str.ofString "keymap", .ref k), (PySem.Str.ofString "event", v), (PySem.Str.ofString "takes_default", .bool td)]) (PySem.Str.ofString "bindings_in") C ?ho ?h1 ?h2 ?hq ?hcd ?hbind ?hloc ?hco ?hgen ?hk ?hcell ?_
  k_extra "my_enter"
  intro A₁ g L' h₁ tk mean mg mb hg Rd F N X T
  obtain rfl : g = s.heap := hg
  clear C
  k_steps
  · rename td = true => ht
    rename (_ == 0) = true => hb
    subst ht
    with_reducible rename Fr _ _ _ _ => F9
    with_reducible rename News _ _ _ _ => N9
    exact ret _ _ _ _ _ (Keep.of_all F9.keep) (N9 _ (List.Mem.head _)).1 (N9.fresh (List.Mem.head _)) ((binds_end hV5).1 hb _ hV6)
  · rename td = false => ht
    rename (_ == 0) = true => hb
    subst ht
    with_reducible rename Fr _ _ _ _ => F9
    with_reducible rename News _ _ _ _ => N9
    exact ret _ _ l5 _ _ (Keep.of_all F9.keep) (N9.get (by k_mem)) (N9.fresh (o := PySem.W.listOf vs5 ep5) (by k_mem)) ((binds_end hV5).2.1 hb)
  · rename (_ == 0) = false => hb
    with_reducible rename Fr _ _ _ _ => F9
    with_reducible rename News _ _ _ _ => N9
    exact ret _ _ l5 _ _ (Keep.of_all F9.keep) (N9.get (by k_mem)) (N9.fresh (o := PySem.W.listOf vs5 ep5) (by k_mem)) ((binds_end hV5).2.2 hb _)

theorem isk_code {α : Type} {RR : Heap → Addr → α → Prop} {w : World} {A : Around} {s : Shared} {R : Result → Shared → Prop} {v : Value} {b : Bd α}
    (C : Rdy w A 3 s.heap []) (hI : Inst RR) {g₀ : Heap} (hg₀ : Keep [] g₀ s.heap) (hv : VB RR g₀ v b)
    (ret : ∀ (h' : Heap) (tk' : Nat), Keep [] s.heap h' → R (.ok (.ret (.bool (isSub b)))) { s with heap := h', toks := tk' }) :
    codeAny (model RP w) A (.call (.ref 133) ⟨[v], []⟩) R s := by
  refine' enter (n := 2) (fun p => defAt p 12) (binds := [(PySem.Str.ofString "binding", v)]) (PySem.Str.ofString "is_keymap") C ?ho ?h1 ?h2 ?hq ?hcd ?hbind ?hloc ?hco ?hgen ?hk ?hcell ?_
  k_extra "my_enter"
  intro A₁ g L' h₁ tk mean mg mb hg Rd F N X T
  obtain rfl : g = s.heap := hg
  clear C
  induction hv using VB.ind with
  | none hv =>
    k_steps
    with_reducible rename Fr _ _ _ _ => F9
    exact ret _ _ (Keep.of_all F9.keep)
  | str c t hv =>
    k_steps
    with_reducible rename Fr _ _ _ _ => F9
    exact ret _ _ (Keep.of_all F9.keep)
  | ref a x hv =>
    obtain ⟨dx, es, n, i1, i2⟩ := hI _ _ _ hv
    have i1' := hg₀.all _ _ i1
    have i2' := hg₀.all _ _ i2
    k_steps
    with_reducible rename Fr _ _ _ _ => F9
    exact ret _ _ (Keep.of_all F9.keep)

inductive JoinJ {α : Type} (RR : Heap → Addr → α → Prop) (g₀ : Heap) (f : Addr) (bs : List (Bd α)) (i : Nat) (m : Str → Option Value) (news : List (Addr × Obj)) : Prop
  | mk (dn : List Value) (xs : List α) (ep : Nat) (a1 : m (PySem.Str.ofString "maps") = some (.ref f)) (a2 : news = [(f, PySem.W.listOf dn.toArray ep)]) (a3 : Refs RR g₀ dn xs) (a4 : joinGo [] bs = joinGo xs (bs.drop i)) (a5 : dn.length ≤ i)

theorem joined_code {α : Type} {RR : Heap → Addr → α → Prop} {w : World} {A : Around} {s : Shared} {R : Result → Shared → Prop} {l : Addr} {vs : Array Value} {ep : Nat} {bs : List (Bd α)}
    (C : Rdy w A 5 s.heap []) (hI : Inst RR) {g₀ : Heap} (hg₀ : Keep [] g₀ s.heap) (hl : s.heap.get? l = some (PySem.W.listOf vs ep)) (hV : Vals RR g₀ vs.toList bs) (hz : vs.size ≤ sizeLine)
    (ret : ∀ (h' : Heap) (tk' : Nat) v, Keep [] s.heap h' → RV RR g₀ s.heap h' v (joinGo [] bs) → R (.ok (.ret v)) { s with heap := h', toks := tk' }) :
    codeAny (model RP w) A (.call (.ref 169) ⟨[.ref l], []⟩) R s := by
  refine' enter (n := 4) (fun p => defAt p 23) (binds := [(PySem.Str.ofString "bindings", .ref l)]) (PySem.Str.ofString "joined") C ?ho ?h1 ?h2 ?hq ?hcd ?hbind ?hloc ?hco ?hgen ?hk ?hcell ?_
  k_extra "my_enter"
  intro A₁ g L' h₁ tk mean mg mb hg Rd F N X T
  obtain rfl : g = s.heap := hg
  clear C
  k_steps
  rename_i f _ _ _ F2 N2
  refine For_invV s.heap rfl rfl ?_ (by intro _; with_unfolding_all rfl)
  k_steps
  refine Stop.go (loop_list (JoinJ RR g₀ f bs) (Rd _ _ _ F2 N2).handled (F2.keep _ _ hl) (old_ne F2 hl) (new_ne N2 hl) F2 N2 (.mk [] [] 0 rfl rfl trivial rfl (Nat.zero_le _)) ?turn ?done)
  case turn =>
    intro i v m₁ news₁ h6 tk6 own hv hadr hoff hJ F6 N6
    obtain ⟨dn, xs, ep', a1, rfl, a3, a4, a5⟩ := hJ
    have hoff : OwnOff own [f] := hoff
    have hi : i < vs.size := (Array.getElem?_eq_some_iff.mp hv).1
    have hz6 : dn.toArray.size ≤ sizeLine := by rw [List.size_toArray]; omega
    rw [m_at a1] at F6
    obtain ⟨b, hb, hVB⟩ := Vals.get hV (by simpa using hv)
    rw [drop_at hb] at a4
    induction hVB using VB.ind with
    | none hVB =>
      k_unmd; try k_fold
      k_steps
      with_reducible rename Fr _ _ _ _ => F9
      with_reducible rename News _ _ _ _ => N9
      rw [go_nil] at a4
      exact InvEndN.intro F9 N9 (.mk dn xs ep' rfl rfl a3 a4 (by omega)) rfl (fun p hp => List.mem_append_left _ hp) (fun p hp => List.mem_append_right _ hp)
    | str c t hVB =>
      k_unmd; try k_fold
      k_steps
      · rename (_ == 0) = true => hq
        obtain rfl := refs_none (vs := dn.toArray) a3 hq
        with_reducible rename Fr _ _ _ _ => F9
        exact ret _ _ _ (Keep.of_all F9.keep) (by rw [a4]; exact .cmd c t rfl rfl)
      · rename (_ == 0) = false => hq
        obtain ⟨x, r, rfl⟩ := refs_some (vs := dn.toArray) a3 hq
        with_reducible rename Fr _ _ _ _ => F9
        with_reducible rename News _ _ _ _ => N9
        exact ret _ _ _ (Keep.of_all F9.keep) (by rw [a4]; exact .maps f _ ep' x r rfl rfl (N9.get (by k_mem)) (N9.fresh (o := PySem.W.listOf dn.toArray ep') (by k_mem)) a3)
    | ref a x hVB =>
      k_unmd; try k_fold
      k_steps
      with_reducible rename Fr _ _ _ _ => F9
      with_reducible rename News _ _ _ _ => N9
      rw [go_sub] at a4
      exact InvEndN.intro F9 N9 (.mk (dn ++ [.ref a]) (xs ++ [x]) (ep' + 1) rfl rfl (Refs.append a3 ⟨⟨_, rfl, hVB⟩, trivial⟩) a4 (by simp; omega)) rfl (fun p hp => by rw [List.mem_singleton.mp hp]; simp) (fun p hp => List.mem_cons_of_mem _ hp)
  case done =>
    intro m₁ news₁ h6 tk6 hJ F6 N6
    obtain ⟨dn, xs, ep', a1, rfl, a3, a4, a5⟩ := hJ
    rw [m_at a1] at F6
    have hd : bs.drop vs.size = [] := List.drop_of_length_le (by rw [← hV.length, Array.length_toList]; exact Nat.le_refl _)
    rw [hd] at a4
    k_steps
    · rename (_ == 0) = true => hb
      obtain rfl := refs_none (vs := dn.toArray) a3 hb
      with_reducible rename Fr _ _ _ _ => F9
      exact ret _ _ _ (Keep.of_all F9.keep) (by rw [a4]; exact .none rfl rfl)
    · rename (_ == 0) = false => hb
      obtain ⟨x, r, rfl⟩ := refs_some (vs := dn.toArray) a3 hb
      with_reducible rename Fr _ _ _ _ => F9
      with_reducible rename News _ _ _ _ => N9
      exact ret _ _ _ (Keep.of_all F9.keep) (by rw [a4]; exact .maps f _ ep' x r rfl rfl (N9.get (by k_mem)) (N9.fresh (o := PySem.W.listOf dn.toArray ep') (by k_mem)) a3)

theorem binds_size {α : Type} {RR : Heap → Addr → α → Prop} {w : World} {g₀ : Heap} {k : Addr} {ch : Ch α} {e : Ky} {td : Bool} {vs : Array Value} (hk : KC w RR g₀ k ch) (h : Vals RR g₀ vs.toList (bindsOf ch e td)) : vs.size ≤ sizeLine :=
  fits' (Nat.le_trans (binds_len ch e td) (KC.len hk)) h.length
theorem first_code {α : Type} {RR : Heap → Addr → α → Prop} {w : World} {A : Around} {s : Shared} {R : Result → Shared → Prop} {k : Addr} {ch : Ch α} {e : Ky} {v : Value} {td : Bool}
    (C : Rdy w A 9 s.heap []) (hI : Inst RR) {g₀ : Heap} (hg₀ : Keep [] g₀ s.heap) (hk : KC w RR g₀ k ch) (he : kyIs e v = true)
    (ret : ∀ (h' : Heap) (tk' : Nat) v, Keep [] s.heap h' → RV RR g₀ s.heap h' v (firstOf ch e td) → R (.ok (.ret v)) { s with heap := h', toks := tk' }) :
    codeAny (model RP w) A (.call (.ref 176) ⟨[.ref k, v, .bool td], []⟩) R s := by
  refine' enter (n := 8) (fun p => defAt p 24) (binds := [(PySem.Str.ofString "keymap", .ref k), (PySem.Str.ofString "event", v), (PySem.Str.ofString "takes_default", .bool td)]) (PySem.Str.ofString "first_in") C ?ho ?h1 ?h2 ?hq ?hcd ?hbind ?hloc ?hco ?hgen ?hk ?hcell ?_
  k_extra "my_enter"
  intro A₁ g L' h₁ tk mean mg mb hg Rd F N X T
  obtain rfl : g = s.heap := hg
  clear C
  k_steps
  · with_reducible rename Fr _ _ _ _ => F9
    have h0 : bindsOf ch e td = [] := List.length_eq_zero_iff.mp hV5.length.symm
    exact ret _ _ _ (Keep.of_all F9.keep) (by unfold firstOf; rw [h0]; exact .none rfl rfl)
  · rename isNil b5 = true => hn
    with_reducible rename Fr _ _ _ _ => F9
    exact ret _ _ _ (Keep.of_all F9.keep) (by unfold firstOf; rw [hb5]; cases b5 <;> first | exact .none rfl rfl | exact absurd hn (by simp [isNil]))
  · rename isNil b5 = false => hn
    with_reducible rename Fr _ _ _ _ => F9
    have e1 : joinGo [] (bindsOf ch e td) = firstOf ch e td := by
      unfold firstOf
      rw [hb5]
      exact joinGo_eq b5 r5 (fun q => by rw [q] at hn; cases hn)
    rw [e1] at hR6
    exact ret _ _ _ (Keep.of_all F9.keep) hR6

theorem first_size {α : Type} {RR : Heap → Addr → α → Prop} {w : World} {g₀ : Heap} {k : Addr} {ch : Ch α} {e : Ky} {td : Bool} {vs : Array Value} {xs : List α} (hk : KC w RR g₀ k ch) (h : firstOf ch e td = .maps xs) (hV : Refs RR g₀ vs.toList xs) : vs.size ≤ 2 := by
  have h1 := hV.length
  rw [Array.length_toList] at h1
  rw [h1]
  exact Nat.le_trans (first_len h) (KC.len hk)
/-- what it gives, and the sublists so far -/
inductive FoundJ {α : Type} (w : World) (RR : Heap → Addr → α → Prop) (g₀ : Heap) (f : Addr) (v : Value) (e : Ky) (td : Bool) (chs : List (Ch α)) (i : Nat) (m : Str → Option Value) (news : List (Addr × Obj)) : Prop
  | mk (dn : List Value) (xs : List α) (ep : Nat) (a1 : m (PySem.Str.ofString "found") = some (.ref f)) (a2 : news = [(f, PySem.W.listOf dn.toArray ep)]) (a3 : Refs RR g₀ dn xs) (a4 : foundOf e td chs [] = foundOf e td (chs.drop i) xs) (a5 : dn.length ≤ 2 * i) (a6 : m (PySem.Str.ofString "event") = some v) (a7 : m (PySem.Str.ofString "takes_default") = some (.bool td))

theorem found_code {α : Type} {RR : Heap → Addr → α → Prop} {w : World} {A : Around} {s : Shared} {R : Result → Shared → Prop} {l : Addr} {vs : Array Value} {ep : Nat} {chs : List (Ch α)} {e : Ky} {v : Value} {td : Bool}
    (C : Rdy w A 11 s.heap []) (hI : Inst RR) {g₀ : Heap} (hg₀ : Keep [] g₀ s.heap) (hl : s.heap.get? l = some (PySem.W.listOf vs ep)) (hV : Refs (KC w RR) g₀ vs.toList chs) (hz : vs.size ≤ 1000) (he : kyIs e v = true)
    (ret : ∀ (h' : Heap) (tk' : Nat) v, Keep [] s.heap h' → RV RR g₀ s.heap h' v (foundOf e td chs []) → R (.ok (.ret v)) { s with heap := h', toks := tk' }) :
    codeAny (model RP w) A (.call (.ref 183) ⟨[.ref l, v, .bool td], []⟩) R s := by
  refine' enter (n := 10) (fun p => defAt p 25) (binds := [(PySem.Str.ofString "maps", .ref l), (PySem.Str.ofString "event", v), (PySem.Str.ofString "takes_default", .bool td)]) (PySem.Str.ofString "found_in") C ?ho ?h1 ?h2 ?hq ?hcd ?hbind ?hloc ?hco ?hgen ?hk ?hcell ?_
  k_extra "my_enter"
  intro A₁ g L' h₁ tk mean mg mb hg Rd F N X T
  obtain rfl : g = s.heap := hg
  clear C
  k_steps
  rename_i f _ _ _ F2 N2
  refine For_invV s.heap rfl rfl ?_ (by intro _; with_unfolding_all rfl)
  k_steps
  refine Stop.go (loop_list (FoundJ w RR g₀ f v e td chs) (Rd _ _ _ F2 N2).handled (F2.keep _ _ hl) (old_ne F2 hl) (new_ne N2 hl) F2 N2 (.mk [] [] 0 rfl rfl trivial rfl (Nat.zero_le _) rfl rfl) ?turn ?done)
  case turn =>
    intro i v' m₁ news₁ h6 tk6 own hv hadr hoff hJ F6 N6
    obtain ⟨dn, xs, ep', a1, rfl, a3, a4, a5, a6, a7⟩ := hJ
    have hoff : OwnOff own [f] := hoff
    have hi : i < vs.size := (Array.getElem?_eq_some_iff.mp hv).1
    have hz6 : dn.toArray.size ≤ sizeLine := by rw [List.size_toArray, sizeLine_eq]; omega
    rw [m_at a1, m_at a6, m_at a7] at F6
    obtain ⟨a, ch, rfl, hch, hKC⟩ := Refs.get hV (by simpa using hv)
    rw [drop_at hch] at a4
    have hz7 : dn.toArray.size ≤ 16000000 := by rw [List.size_toArray]; omega
    k_unmd; try k_fold
    k_steps
    · rw [fs_none hr5] at a4
      with_reducible rename Fr _ _ _ _ => F9
      with_reducible rename News _ _ _ _ => N9
      exact InvEndN.intro F9 N9 (.mk dn xs ep' rfl rfl a3 a4 (by omega) rfl rfl) rfl (fun p hp => List.mem_append_left _ hp) (fun p hp => List.mem_append_right _ hp)
    · rename (_ == 0) = true => hq
      obtain rfl := refs_none (vs := dn.toArray) a3 hq
      rw [fs_cmd0 hr5] at a4
      with_reducible rename Fr _ _ _ _ => F9
      exact ret _ _ _ (Keep.of_all F9.keep) (by rw [a4]; exact .cmd c5 t5 rfl rfl)
    · rename (_ == 0) = false => hq
      obtain ⟨x, r, rfl⟩ := refs_some (vs := dn.toArray) a3 hq
      rw [fs_cmd1 hr5] at a4
      with_reducible rename Fr _ _ _ _ => F9
      with_reducible rename News _ _ _ _ => N9
      exact ret _ _ _ (Keep.of_all F9.keep) (by rw [a4]; exact .maps f _ ep' x r rfl rfl (N9.get (by k_mem)) (N9.fresh (o := PySem.W.listOf dn.toArray ep') (by k_mem)) a3)
    · rw [fs_maps hr5] at a4
      exact InvEndN.intro F8 N8 (nx := [(f, PySem.W.listOf (dn ++ vs5.toList).toArray (ep' + 1))]) (.mk (dn ++ vs5.toList) (xs ++ x5 :: xs5) (ep' + 1) rfl rfl (Refs.append a3 hV5) a4 (by simp only [List.length_append, Array.length_toList]; omega) rfl rfl) rfl
        (fun p hp => by rw [List.mem_singleton.mp hp]; exact .tail _ (.head _)) (fun p hp => .tail _ (.tail _ hp))
  case done =>
    intro m₁ news₁ h6 tk6 hJ F6 N6
    obtain ⟨dn, xs, ep', a1, rfl, a3, a4, a5, a6, a7⟩ := hJ
    rw [m_at a1] at F6
    have hd : chs.drop vs.size = [] := List.drop_of_length_le (by rw [← hV.length, Array.length_toList]; exact Nat.le_refl _)
    rw [hd] at a4
    k_steps
    · rename (_ == 0) = true => hb
      obtain rfl := refs_none (vs := dn.toArray) a3 hb
      with_reducible rename Fr _ _ _ _ => F9
      exact ret _ _ _ (Keep.of_all F9.keep) (by rw [a4]; exact .none rfl rfl)
    · rename (_ == 0) = false => hb
      obtain ⟨x, r, rfl⟩ := refs_some (vs := dn.toArray) a3 hb
      with_reducible rename Fr _ _ _ _ => F9
      with_reducible rename News _ _ _ _ => N9
      exact ret _ _ _ (Keep.of_all F9.keep) (by rw [a4]; exact .maps f _ ep' x r rfl rfl (N9.get (by k_mem)) (N9.fresh (o := PySem.W.listOf dn.toArray ep') (by k_mem)) a3)
noncomputable def isInl : Ky → Bool
  | .inl _ => true
  | _ => false
theorem sign_code {w : World} {A : Around} {s : Shared} {R : Result → Shared → Prop} {v : Value} {e : Ky}
    (C : Rdy w A 3 s.heap []) (he : kyIs e v = true)
    (ret : ∀ (h' : Heap) (tk' : Nat), Keep [] s.heap h' → R (.ok (.ret (.bool (isInl e)))) { s with heap := h', toks := tk' }) :
    codeAny (model RP w) A (.call (.ref 28) ⟨[v], []⟩) R s := by
  refine' enter (n := 2) (fun p => defAt p 4) (binds := [(PySem.Str.ofString "event", v)]) (PySem.Str.ofString "is_sign") C ?ho ?h1 ?h2 ?hq ?hcd ?hbind ?hloc ?hco ?hgen ?hk ?hcell ?_
  k_extra "my_enter"
  intro A₁ g L' h₁ tk mean mg mb hg Rd F N X T
  obtain rfl : g = s.heap := hg
  clear C
  rcases kyIs_shape he with ⟨i, t, rfl, rfl⟩ | ⟨x, t, rfl, rfl⟩
  all_goals
    k_steps
    with_reducible rename Fr _ _ _ _ => F9
    exact ret _ _ (Keep.of_all F9.keep)

/-- an int of the law: without the meta bit -/
noncomputable def Plain (e : Ky) : Prop := ∀ i, e = .inl i → Builtin.bitAnd i 134217728 = 0

theorem has_meta_code {w : World} {A : Around} {s : Shared} {R : Result → Shared → Prop} {v : Value} {e : Ky}
    (C : Rdy w A 5 s.heap []) (he : kyIs e v = true) (hs : Plain e)
    (ret : ∀ (h' : Heap) (tk' : Nat), Keep [] s.heap h' → R (.ok (.ret (.bool false))) { s with heap := h', toks := tk' }) :
    codeAny (model RP w) A (.call (.ref 35) ⟨[v], []⟩) R s := by
  refine' enter (n := 4) (fun p => defAt p 5) (binds := [(PySem.Str.ofString "event", v)]) (PySem.Str.ofString "has_meta") C ?ho ?h1 ?h2 ?hq ?hcd ?hbind ?hloc ?hco ?hgen ?hk ?hcell ?_
  k_extra "my_enter"
  intro A₁ g L' h₁ tk mean mg mb hg Rd F N X T
  obtain rfl : g = s.heap := hg
  clear C
  k_steps
  refine wpAny_call ?_
  refine sign_code (Rdy.le (Rd _ _ _ F .nil) (by decide)) he ?_
  intro h5 tk5 kp5
  have F5 := Keep.fr kp5 F
  rcases kyIs_shape he with ⟨i, t, rfl, rfl⟩ | ⟨x, t, rfl, rfl⟩
  · dsimp only [isInl]
    k_steps
    with_reducible rename Fr _ _ _ _ => F9
    rw [hs i rfl]
    exact ret _ _ (Keep.of_all F9.keep)
  · dsimp only [isInl]
    k_steps
    with_reducible rename Fr _ _ _ _ => F9
    exact ret _ _ (Keep.of_all F9.keep)

theorem without_code {w : World} {A : Around} {s : Shared} {R : Result → Shared → Prop} {v : Value} {e : Ky}
    (C : Rdy w A 7 s.heap []) (he : kyIs e v = true) (hs : Plain e)
    (ret : ∀ (h' : Heap) (tk' : Nat), Keep [] s.heap h' → R (.ok (.ret v)) { s with heap := h', toks := tk' }) :
    codeAny (model RP w) A (.call (.ref 42) ⟨[v], []⟩) R s := by
  refine' enter (n := 6) (fun p => defAt p 6) (binds := [(PySem.Str.ofString "event", v)]) (PySem.Str.ofString "without_meta") C ?ho ?h1 ?h2 ?hq ?hcd ?hbind ?hloc ?hco ?hgen ?hk ?hcell ?_
  k_extra "my_enter"
  intro A₁ g L' h₁ tk mean mg mb hg Rd F N X T
  obtain rfl : g = s.heap := hg
  clear C
  k_steps
  with_reducible rename Fr _ _ _ _ => F9
  exact ret _ _ (Keep.of_all F9.keep)

noncomputable abbrev tupOf (vs : Array Value) (n : Nat) : Obj := { cls := .type "tuple", data := .seq vs n }

theorem spread1_code {w : World} {A : Around} {s : Shared} {R : Result → Shared → Prop} {kt : Addr} {v : Value} {e : Ky} {n : Nat}
    (C : Rdy w A 9 s.heap [(kt, ({ cls := .type "tuple", data := .seq #[v] n } : Obj))]) (he : kyIs e v = true) (hs : Plain e)
    (ret : ∀ (h' : Heap) (tk' : Nat) t ep, Keep [] s.heap h' → h'.get? t = some (tupOf #[v] ep) → s.heap.get? t = none → R (.ok (.ret (.ref t))) { s with heap := h', toks := tk' }) :
    codeAny (model RP w) A (.call (.ref 49) ⟨[.ref kt], []⟩) R s := by
  refine' enter (n := 8) (fun p => defAt p 7) (binds := [(PySem.Str.ofString "keys", .ref kt)]) (PySem.Str.ofString "spread_meta") C ?ho ?h1 ?h2 ?hq ?hcd ?hbind ?hloc ?hco ?hgen ?hk ?hcell ?_
  k_extra "my_enter"
  intro A₁ g L' h₁ tk mean mg mb hg Rd F N X T
  have hkt := C.at (.head _)
  clear C
  obtain ⟨ah, dp, ev, gd, un⟩ := A₁
  obtain rfl : ah = none := (Rd _ _ _ F N).handled
  k_steps
  with_reducible rename Fr _ _ _ _ => F9
  with_reducible rename News _ _ _ _ => N9
  exact ret _ _ _ _ (keep_one hkt hg F9 N9 (by k_mem)) (N9 _ (.head _)).1 (fresh_one hg N9 (.head _) ((by k_ne)))

theorem spread2_code {w : World} {A : Around} {s : Shared} {R : Result → Shared → Prop} {kt : Addr} {v v2 : Value} {e e2 : Ky} {n : Nat}
    (C : Rdy w A 9 s.heap [(kt, ({ cls := .type "tuple", data := .seq #[v, v2] n } : Obj))]) (he : kyIs e v = true) (hs : Plain e) (he2 : kyIs e2 v2 = true) (hs2 : Plain e2)
    (ret : ∀ (h' : Heap) (tk' : Nat) t ep, Keep [] s.heap h' → h'.get? t = some (tupOf #[v, v2] ep) → s.heap.get? t = none → R (.ok (.ret (.ref t))) { s with heap := h', toks := tk' }) :
    codeAny (model RP w) A (.call (.ref 49) ⟨[.ref kt], []⟩) R s := by
  refine' enter (n := 8) (fun p => defAt p 7) (binds := [(PySem.Str.ofString "keys", .ref kt)]) (PySem.Str.ofString "spread_meta") C ?ho ?h1 ?h2 ?hq ?hcd ?hbind ?hloc ?hco ?hgen ?hk ?hcell ?_
  k_extra "my_enter"
  intro A₁ g L' h₁ tk mean mg mb hg Rd F N X T
  have hkt := C.at (.head _)
  clear C
  obtain ⟨ah, dp, ev, gd, un⟩ := A₁
  obtain rfl : ah = none := (Rd _ _ _ F N).handled
  k_steps
  with_reducible rename Fr _ _ _ _ => F9
  with_reducible rename News _ _ _ _ => N9
  exact ret _ _ _ _ (keep_one hkt hg F9 N9 (by k_mem)) (N9 _ (.head _)).1 (fresh_one hg N9 (.head _) ((by k_ne)))

/-- what lookup_keys gives -/
inductive LK (h h' : Heap) (v : Value) (o : Out) : Prop
  | none (t : Addr) (tw tx : Tok) (x : Int) (n : Nat) (e1 : v = .ref t) (e2 : o = .none) (h1 : h'.get? t = some (tupOf #[.str (PySem.Str.ofString "none") tw, .int x tx] n)) (h2 : h.get? t = none)
  | long (t : Addr) (tw tx : Tok) (x : Int) (n : Nat) (e1 : v = .ref t) (e2 : o = .none) (h1 : h'.get? t = some (tupOf #[.str (PySem.Str.ofString "long") tw, .int x tx] n)) (h2 : h.get? t = none)
  | pre (t l : Addr) (tw : Tok) (n : Nat) (e1 : v = .ref t) (e2 : o = .pre) (h1 : h'.get? t = some (tupOf #[.str (PySem.Str.ofString "prefix") tw, .ref l] n)) (h2 : h.get? t = none)
  | cmd (t : Addr) (tw tc : Tok) (c : Str) (n : Nat) (e1 : v = .ref t) (e2 : o = .cmd c) (h1 : h'.get? t = some (tupOf #[.str (PySem.Str.ofString "bound") tw, .str c tc] n)) (h2 : h.get? t = none)

theorem refs_two {α : Type} {w : World} {RR : Heap → Addr → α → Prop} {h : Heap} : ∀ {vs : List Value} {chs : List (Ch α)}, Refs (KC w RR) h vs chs → ∀ ch ∈ chs, ch.length ≤ 2
  | [], [], _, _, m => nomatch m
  | _ :: _, _ :: _, ⟨⟨_, _, r⟩, t⟩, ch, m => by
    rcases List.mem_cons.mp m with rfl | m
    · exact KC.len r
    · exact refs_two t ch m
theorem next_size {α : Type} {w : World} {RR : Heap → Addr → α → Prop} {h : Heap} {vs us : Array Value} {chs : List (Ch (Ch α))} {xs : List (Ch α)} {e : Ky} {td : Bool} (hV : Refs (KC w (KC w RR)) h vs.toList chs) (hz : vs.size ≤ 100)
    (hr : foundOf e td chs [] = .maps xs) (hU : Refs (KC w RR) h us.toList xs) : us.size ≤ 1000 := by
  have h1 := found_len (refs_two hV) hr
  have h2 := hV.length
  have h3 := hU.length
  rw [Array.length_toList] at h2 h3
  simp only [List.length_nil] at h1
  omega

theorem lookup1_code {α : Type} {RR : Heap → Addr → α → Prop} {w : World} {A : Around} {s : Shared} {R : Result → Shared → Prop} {l kt : Addr} {vs : Array Value} {ep n : Nat} {chs : List (Ch α)} {e : Ky} {v : Value} {td : Bool}
    (C : Rdy w A 13 s.heap [(kt, tupOf #[v] n)]) (hI : Inst RR) {g₀ : Heap} (hg₀ : Keep [] g₀ s.heap) (hkn : g₀.get? kt = none) (hl : s.heap.get? l = some (PySem.W.listOf vs ep)) (hV : Refs (KC w RR) g₀ vs.toList chs) (hz : vs.size ≤ 1000) (he : kyIs e v = true) (hs : Plain e)
    (ret : ∀ (h' : Heap) (tk' : Nat) v, Keep [] s.heap h' → LK s.heap h' v (out1 chs e td) → R (.ok (.ret v)) { s with heap := h', toks := tk' }) :
    codeAny (model RP w) A (.call (.ref 191) ⟨[.ref l, .ref kt, .bool td], []⟩) R s := by
  refine' enter (n := 12) (fun p => defAt p 26) (binds := [(PySem.Str.ofString "maps", .ref l), (PySem.Str.ofString "keys", .ref kt), (PySem.Str.ofString "takes_default", .bool td)]) (PySem.Str.ofString "lookup_keys") C ?ho ?h1 ?h2 ?hq ?hcd ?hbind ?hloc ?hco ?hgen ?hk ?hcell ?_
  k_extra "my_enter"
  intro A₁ g L' h₁ tk mean mg mb hg Rd F N X T
  have hkt := C.at (.head _)
  have hz1 : vs.size ≤ sizeLine := by rw [sizeLine_eq]; omega
  have hl₁ := hide_at hl (cls_ne hl hkt lt_ne) hg
  replace hg₀ := keep_hide hg₀ hkn hg
  clear C
  obtain ⟨ah, dp, ev, gd, un⟩ := A₁
  obtain rfl : ah = none := (Rd _ _ _ F N).handled
  have hu : out1 chs e td = match foundOf e td chs [] with | .none => .none | .cmd c => .cmd c | .maps _ => .pre := rfl
  rw [hu] at ret
  k_steps
  all_goals
    with_reducible rename Fr _ _ _ _ => F9
    with_reducible rename News _ _ _ _ => N9
    rw [hr5] at ret
  · exact ret _ _ _ (keep_one hkt hg F9 N9 (by k_mem)) (.none _ _ _ _ _ rfl rfl (N9 _ (.head _)).1 (fresh_one hg N9 (.head _) ((by k_ne))))
  · exact ret _ _ _ (keep_one hkt hg F9 N9 (by k_mem)) (.cmd _ _ _ _ _ rfl rfl (N9 _ (.head _)).1 (fresh_one hg N9 (.head _) ((by k_ne))))
  · exact ret _ _ _ (keep_one hkt hg F9 N9 (by k_mem)) (.pre _ _ _ _ rfl rfl (N9 _ (.head _)).1 (fresh_one hg N9 (.head _) ((by k_ne))))

theorem lookup2_code {α : Type} {RR : Heap → Addr → α → Prop} {w : World} {A : Around} {s : Shared} {R : Result → Shared → Prop} {l kt : Addr} {vs : Array Value} {ep n : Nat} {chs : List (Ch (Ch α))} {e e2 : Ky} {v v2 : Value} {td : Bool} {args : List Value} (ha : args = [.ref l, .ref kt, .bool td] ∨ (args = [.ref l, .ref kt] ∧ td = false))
    (C : Rdy w A 13 s.heap [(kt, tupOf #[v, v2] n)]) (hI : Inst RR) {g₀ : Heap} (hg₀ : Keep [] g₀ s.heap) (hkn : g₀.get? kt = none) (hl : s.heap.get? l = some (PySem.W.listOf vs ep)) (hV : Refs (KC w (KC w RR)) g₀ vs.toList chs) (hz100 : vs.size ≤ 100) (he : kyIs e v = true) (hs : Plain e)
    (he2 : kyIs e2 v2 = true) (hs2 : Plain e2)
    (ret : ∀ (h' : Heap) (tk' : Nat) v, Keep [] s.heap h' → LK s.heap h' v (out2 chs e e2 td) → R (.ok (.ret v)) { s with heap := h', toks := tk' }) :
    codeAny (model RP w) A (.call (.ref 191) ⟨args, []⟩) R s := by
  refine' enter (n := 12) (fun p => defAt p 26) (binds := [(PySem.Str.ofString "maps", .ref l), (PySem.Str.ofString "keys", .ref kt), (PySem.Str.ofString "takes_default", .bool td)]) (PySem.Str.ofString "lookup_keys") C ?ho ?h1 ?h2 ?hq ?hcd ?hbind ?hloc ?hco ?hgen ?hk ?hcell ?_
  case ho => k_is
  case h1 => exact rfl
  case h2 => exact rfl
  case hq => decide +kernel
  case hcd => k_is
  case hbind =>
    intro hX
    rcases ha with rfl | ⟨rfl, rfl⟩
    · exact binds_K hX rfl (by k_is) rfl rfl rfl
    · exact binds_K hX rfl (by k_is) rfl rfl rfl
  k_extra "my_enter2"
  intro A₁ g L' h₁ tk mean mg mb hg Rd F N X T
  have hkt := C.at (.head _)
  have hz : vs.size ≤ 1000 := by omega
  have hz1 : vs.size ≤ sizeLine := by rw [sizeLine_eq]; omega
  have hl₁ := hide_at hl (cls_ne hl hkt lt_ne) hg
  replace hg₀ := keep_hide hg₀ hkn hg
  clear C
  obtain ⟨ah, dp, ev, gd, un⟩ := A₁
  obtain rfl : ah = none := (Rd _ _ _ F N).handled
  k_steps
  all_goals
    with_reducible rename Fr _ _ _ _ => F9
    with_reducible rename News _ _ _ _ => N9
    rename foundOf e td chs [] = _ => q1
    try (rename foundOf e2 td _ [] = _ => q2)
  · exact ret _ _ _ (keep_one hkt hg F9 N9 (by k_mem)) (.none _ _ _ _ _ rfl (by simp only [out2, out1, q1]) (N9 _ (.head _)).1 (fresh_one hg N9 (.head _) ((by k_ne))))
  · exact ret _ _ _ (keep_one hkt hg F9 N9 (by k_mem)) (.long _ _ _ _ _ rfl (by simp only [out2, out1, q1]) (N9 _ (.head _)).1 (fresh_one hg N9 (.head _) ((by k_ne))))
  · exact ret _ _ _ (keep_one hkt hg F9 N9 (by k_mem)) (.none _ _ _ _ _ rfl (by simp only [out2, out1, q1, q2]) (N9 _ (.head _)).1 (fresh_one hg N9 (.head _) ((by k_ne))))
  · exact ret _ _ _ (keep_one hkt hg F9 N9 (by k_mem)) (.cmd _ _ _ _ _ rfl (by simp only [out2, out1, q1, q2]) (N9 _ (.head _)).1 (fresh_one hg N9 (.head _) ((by k_ne))))
  · exact ret _ _ _ (keep_one hkt hg F9 N9 (by k_mem)) (.pre _ _ _ _ rfl (by simp only [out2, out1, q1, q2]) (N9 _ (.head _)).1 (fresh_one hg N9 (.head _) ((by k_ne))))
/-- what lookup gives for what the keys come to -/
noncomputable def DV : Value → Out → Prop
  | .none, .none => True
  | .str x _, .pre => x = PySem.Str.ofString "prefix"
  | .str x _, .cmd c => x = c
  | _, _ => False
theorem remapped_code {w : World} {A : Around} {s : Shared} {R : Result → Shared → Prop} {l : Addr} {vs : Array Value} {ep : Nat} {chs : List (Ch (Ch Empty))} {c : Str} {t : Tok}
    (C : Rdy w A 15 s.heap []) {g₀ : Heap} (hg₀ : Keep [] g₀ s.heap) (hl : s.heap.get? l = some (PySem.W.listOf vs ep)) (hV : Refs (KC w (KC w RE)) g₀ vs.toList chs) (hz100 : vs.size ≤ 100)
    (ret : ∀ (h' : Heap) (tk' : Nat) t, Keep [] s.heap h' → R (.ok (.ret (.str (remOf chs c) t))) { s with heap := h', toks := tk' }) :
    codeAny (model RP w) A (.call (.ref 198) ⟨[.ref l, .str c t], []⟩) R s := by
  refine' enter (n := 14) (fun p => defAt p 27) (binds := [(PySem.Str.ofString "maps", .ref l), (PySem.Str.ofString "command", .str c t)]) (PySem.Str.ofString "remapped") C ?ho ?h1 ?h2 ?hq ?hcd ?hbind ?hloc ?hco ?hgen ?hk ?hcell ?_
  k_extra "my_enter"
  intro A₁ g L' h₁ tk mean mg mb hg Rd F N X T
  obtain rfl : g = s.heap := hg
  clear C
  obtain ⟨ah, dp, ev, gd, un⟩ := A₁
  obtain rfl : ah = none := (Rd _ _ _ F N).handled
  k_steps
  with_reducible rename Fr _ _ _ _ => F9
  with_reducible rename News _ _ _ _ => N9
  refine wpAny_call ?_
  refine lookup2_code (td := false) (.inr ⟨rfl, rfl⟩) (Rdy.le (Rd _ _ _ F9 N9) (by decide)) RE.inst (g₀ := g₀) (Keep.of_all (fun b o e => F9.keep b o (hg₀.all b o e))) (none_before hg₀ (N9 _ (.head _)).2.2) (F9.keep _ _ hl) hV hz100 (e := .inr _) (kyIs_str _ _) (fun i q => nomatch q) (e2 := .inr _) (kyIs_str _ _) (fun i q => nomatch q) ?_
  intro h5 tk5 v5 kp5 hR5
  have F5 := Keep.fr kp5 F9
  have rm : remOf chs c = match out2 chs (.inr (PySem.Str.ofString "remap")) (.inr c) false with | .cmd c' => c' | _ => c := rfl
  rcases hR5 with ⟨t5, tw, tx, x, n5, rfl, e2, h1, h2⟩ | ⟨t5, tw, tx, x, n5, rfl, e2, h1, h2⟩ | ⟨t5, l5, tw, n5, rfl, e2, h1, h2⟩ | ⟨t5, tw, tc, c', n5, rfl, e2, h1, h2⟩
  all_goals
    rw [e2] at rm
    have N5 := Keep.add kp5 F9 N9 h1 h2
    try dsimp only
    k_steps
    with_reducible rename Fr _ _ _ _ => F9
  · have rm' : remOf chs c = c := rm
    rw [rm'] at ret
    exact ret _ _ _ (Keep.of_all F9.keep)
  · have rm' : remOf chs c = c := rm
    rw [rm'] at ret
    exact ret _ _ _ (Keep.of_all F9.keep)
  · have rm' : remOf chs c = c := rm
    rw [rm'] at ret
    exact ret _ _ _ (Keep.of_all F9.keep)
  · have rm' : remOf chs c = c' := rm
    rw [rm'] at ret
    exact ret _ _ _ (Keep.of_all F9.keep)

/-- an ActiveKeys -/
noncomputable abbrev akDict (h1 : Int) (t1 : Tok) (l : Addr) : Obj := dictOf [⟨h1, .str (PySem.Str.ofString "maps") t1, .ref l⟩] 1

theorem active1_code {w : World} {A : Around} {s : Shared} {R : Result → Shared → Prop} {k dx l kt : Addr} {h1 : Int} {t1 : Tok} {vs : Array Value} {ep n : Nat} {chs : List (Ch (Ch Empty))} {e : Ky} {v : Value}
    (C : Rdy w A 17 s.heap [(kt, tupOf #[v] n)]) {g₀ : Heap} (hg₀ : Keep [] g₀ s.heap) (hkn : g₀.get? kt = none) (hk : g₀.get? k = some (instObj 234 dx)) (hx : g₀.get? dx = some (akDict h1 t1 l)) (hl : g₀.get? l = some (PySem.W.listOf vs ep)) (hV : Refs (KC w (KC w RE)) g₀ vs.toList chs) (hz100 : vs.size ≤ 100) (he : kyIs e v = true) (hs : Plain e)
    (ret : ∀ (h' : Heap) (tk' : Nat) v, Keep [] s.heap h' → DV v (dueOf chs (out1 chs e true)) → R (.ok (.ret v)) { s with heap := h', toks := tk' }) :
    codeAny (model RP w) A (.call (.ref 231) ⟨[.ref k, .ref kt], []⟩) R s := by
  refine' enter (n := 16) (fun p => methAt p 31 1) (binds := [(PySem.Str.ofString "self", .ref k), (PySem.Str.ofString "keys", .ref kt)]) (PySem.Str.ofString "ActiveKeys.lookup") C ?ho ?h1 ?h2 ?hq ?hcd ?hbind ?hloc ?hco ?hgen ?hk ?hcell ?_
  k_extra "my_enter"
  intro A₁ g L' h₁ tk mean mg mb hg Rd F N X T
  have hkt := C.at (.head _)
  replace hg₀ := keep_hide hg₀ hkn hg
  clear C
  obtain ⟨ah, dp, ev, gd, un⟩ := A₁
  obtain rfl : ah = none := (Rd _ _ _ F N).handled
  have hz : vs.size ≤ 1000 := by omega
  k_steps
  with_reducible rename Fr _ _ _ _ => F9
  refine wpAny_call ?_
  refine lookup1_code (Rdy.le (Rd _ _ _ F9 N) (by decide)) KC.inst (g₀ := g₀) (Keep.of_all (fun b o e => F9.keep b o (hg₀.all b o e))) hkn (F9.keep _ _ (hg₀.all _ _ hl)) hV hz he hs ?_
  intro h5 tk5 v5 kp5 hR5
  have F5 := Keep.fr kp5 F9
  have N4 := Keep.news kp5 N
  have hl5 : h5.get? l = some (PySem.W.listOf vs ep) := F5.keep _ _ (hg₀.all _ _ hl)
  rcases hR5 with ⟨t5, tw, tx, x, n5, rfl, e2, h1, h2⟩ | ⟨t5, tw, tx, x, n5, rfl, e2, h1, h2⟩ | ⟨t5, l5, tw, n5, rfl, e2, h1, h2⟩ | ⟨t5, tw, tc, c', n5, rfl, e2, h1, h2⟩
  all_goals
    rw [e2] at ret
    have N5 := Keep.add kp5 F9 N h1 h2
    try dsimp only
    k_steps
    with_reducible rename Fr _ _ _ _ => F8
    with_reducible rename News _ _ _ _ => N8
  · exact ret _ _ _ (keep_one hkt hg F8 N8 (by k_mem)) trivial
  · exact ret _ _ _ (keep_one hkt hg F8 N8 (by k_mem)) trivial
  · exact ret _ _ _ (keep_one hkt hg F8 N8 (by k_mem)) rfl
  · refine wpAny_call ?_
    refine remapped_code (Rdy.le (Rd _ _ _ F8 .nil) (by decide)) (g₀ := g₀) (Keep.of_all (fun b o e => F8.keep b o (hg₀.all b o e))) (F8.keep _ _ (hg₀.all _ _ hl)) hV hz100 ?_
    intro h6 tk6 t6 kp6
    exact ret _ _ _ (keep_one hkt hg (Keep.fr kp6 F8) (Keep.news kp6 N8) (by k_mem)) rfl

theorem active2_code {w : World} {A : Around} {s : Shared} {R : Result → Shared → Prop} {k dx l kt : Addr} {h1 : Int} {t1 : Tok} {vs : Array Value} {ep n : Nat} {chs : List (Ch (Ch Empty))} {e e2 : Ky} {v v2 : Value}
    (C : Rdy w A 17 s.heap [(kt, tupOf #[v, v2] n)]) {g₀ : Heap} (hg₀ : Keep [] g₀ s.heap) (hkn : g₀.get? kt = none) (hk : g₀.get? k = some (instObj 234 dx)) (hx : g₀.get? dx = some (akDict h1 t1 l)) (hl : g₀.get? l = some (PySem.W.listOf vs ep)) (hV : Refs (KC w (KC w RE)) g₀ vs.toList chs) (hz100 : vs.size ≤ 100) (he : kyIs e v = true) (hs : Plain e) (he2 : kyIs e2 v2 = true) (hs2 : Plain e2)
    (ret : ∀ (h' : Heap) (tk' : Nat) v, Keep [] s.heap h' → DV v (dueOf chs (out2 chs e e2 true)) → R (.ok (.ret v)) { s with heap := h', toks := tk' }) :
    codeAny (model RP w) A (.call (.ref 231) ⟨[.ref k, .ref kt], []⟩) R s := by
  refine' enter (n := 16) (fun p => methAt p 31 1) (binds := [(PySem.Str.ofString "self", .ref k), (PySem.Str.ofString "keys", .ref kt)]) (PySem.Str.ofString "ActiveKeys.lookup") C ?ho ?h1 ?h2 ?hq ?hcd ?hbind ?hloc ?hco ?hgen ?hk ?hcell ?_
  k_extra "my_enter"
  intro A₁ g L' h₁ tk mean mg mb hg Rd F N X T
  have hkt := C.at (.head _)
  replace hg₀ := keep_hide hg₀ hkn hg
  clear C
  obtain ⟨ah, dp, ev, gd, un⟩ := A₁
  obtain rfl : ah = none := (Rd _ _ _ F N).handled
  have hz : vs.size ≤ 1000 := by omega
  k_steps
  with_reducible rename Fr _ _ _ _ => F9
  refine wpAny_call ?_
  refine lookup2_code (.inl rfl) (Rdy.le (Rd _ _ _ F9 N) (by decide)) RE.inst (g₀ := g₀) (Keep.of_all (fun b o e => F9.keep b o (hg₀.all b o e))) hkn (F9.keep _ _ (hg₀.all _ _ hl)) hV hz100 he hs he2 hs2 ?_
  intro h5 tk5 v5 kp5 hR5
  have F5 := Keep.fr kp5 F9
  have N4 := Keep.news kp5 N
  have hl5 : h5.get? l = some (PySem.W.listOf vs ep) := F5.keep _ _ (hg₀.all _ _ hl)
  rcases hR5 with ⟨t5, tw, tx, x, n5, rfl, q2, h1, h2⟩ | ⟨t5, tw, tx, x, n5, rfl, q2, h1, h2⟩ | ⟨t5, l5, tw, n5, rfl, q2, h1, h2⟩ | ⟨t5, tw, tc, c', n5, rfl, q2, h1, h2⟩
  all_goals
    rw [q2] at ret
    have N5 := Keep.add kp5 F9 N h1 h2
    try dsimp only
    k_steps
    with_reducible rename Fr _ _ _ _ => F8
    with_reducible rename News _ _ _ _ => N8
  · exact ret _ _ _ (keep_one hkt hg F8 N8 (by k_mem)) trivial
  · exact ret _ _ _ (keep_one hkt hg F8 N8 (by k_mem)) trivial
  · exact ret _ _ _ (keep_one hkt hg F8 N8 (by k_mem)) rfl
  · refine wpAny_call ?_
    refine remapped_code (Rdy.le (Rd _ _ _ F8 .nil) (by decide)) (g₀ := g₀) (Keep.of_all (fun b o e => F8.keep b o (hg₀.all b o e))) (F8.keep _ _ (hg₀.all _ _ hl)) hV hz100 ?_
    intro h6 tk6 t6 kp6
    exact ret _ _ _ (keep_one hkt hg (Keep.fr kp6 F8) (Keep.news kp6 N8) (by k_mem)) rfl
section
variable {w : World} {A : Around} {E : Value → Shared → Prop} {s : Shared} {h₀ : Heap} {L r : Addr} {m : Str → Option Value} {Q : Value → Shared → Prop} {e : Ky} {v : Value} {f : Ky → Option Value}
theorem sub_g {value slice : Expr} {x : Value} (F : Fr h₀ L s.heap m) (hm : h₀.MapOf (mix RP w) r f) (hk : kyIs e v = true) (hx : f e = some x) (h : Q x { s with toks := s.toks + 1 })
    (hs : subscripted slice false (.ref r) v = operate [.ref r, v] (getItem (.ref r) v) := by with_unfolding_all rfl) (hg : ∀ y, letTemporaryGo value (.ref r) y = pure () := by intro _; with_unfolding_all rfl) :
    wpAny (model RP w) A (subscriptTail value slice (.ref r) v) Q E s :=
  subscriptTail_builtin (Heap.MapOf.grow hm F.keep).typeIs slot_dict_getitem.lookup (get_g F hk hm hx h) hs hg
end
noncomputable def OL {α : Type} (w : World) (R : Heap → Addr → α → Prop) (h : Heap) (a : Addr) (l : Lv α) : Prop := ∃ pv, O1 w R h a pv l
noncomputable def ONx {α : Type} (w : World) (RR : Heap → Addr → α → Prop) (h : Heap) (v : Value) (rem : Ch α) : Prop := (v = .none ∧ rem = []) ∨ ∃ k', v = .ref k' ∧ OC w RR h k' rem
theorem ONx.step {α : Type} {w : World} {RR : Heap → Addr → α → Prop} {h : Heap} {k : Addr} {rem : Ch α} (x : OC w RR h k rem) : ∃ l1 rest pv, rem = l1 :: rest ∧ O1 w RR h k pv l1 ∧ ONx w RR h pv rest := by
  match rem, x with
  | [l1], x => exact ⟨l1, [], _, rfl, x, .inl ⟨rfl, rfl⟩⟩
  | [l1, l2], ⟨k2, x, y⟩ => exact ⟨l1, [l2], _, rfl, x, .inr ⟨k2, rfl, y⟩⟩
theorem OC.len {α : Type} {w : World} {RR : Heap → Addr → α → Prop} {h : Heap} {k : Addr} {rem : Ch α} (x : OC w RR h k rem) : rem.length ≤ 2 := by
  match rem, x with
  | [l1], _ => exact Nat.le_succ 1
  | [l1, l2], _ => exact Nat.le_refl 2

inductive OChainJ {α : Type} (w : World) (RR : Heap → Addr → α → Prop) (h : Heap) (l : Addr) (ch : Ch α) (n : Nat) (m : Str → Option Value) (news : List (Addr × Obj)) : Prop
  | mk (pre rem : Ch α) (dn : List Value) (v : Value) (ep : Nat) (a1 : n = rem.length) (a2 : pre ++ rem = ch) (a3 : m (PySem.Str.ofString "own") = some v) (a4 : m (PySem.Str.ofString "found") = some (.ref l))
      (a5 : news = [(l, PySem.W.listOf dn.toArray ep)]) (a6 : Refs (OL w RR) h dn pre) (a7 : ONx w RR h v rem)

theorem law_chain_code {α : Type} {RR : Heap → Addr → α → Prop} {w : World} {A : Around} {s : Shared} {R : Result → Shared → Prop} {k : Addr} {ch : Ch α}
    (C : Rdy w A 3 s.heap []) {g₀ : Heap} (hg₀ : Keep [] g₀ s.heap) (hk : OC w RR g₀ k ch) 
    (ret : ∀ (h' : Heap) (tk' : Nat) l vs ep, Keep [] s.heap h' → h'.get? l = some (PySem.W.listOf vs ep) → s.heap.get? l = none → Refs (OL w RR) g₀ vs.toList ch → R (.ok (.ret (.ref l))) { s with heap := h', toks := tk' }) :
    codeAny (model RP w) A (.call (.ref 259) ⟨[.ref k], []⟩) R s := by
  refine' enter (n := 2) (fun p => defAt p 35) (binds := [(PySem.Str.ofString "own", .ref k)]) (PySem.Str.ofString "_law_chain") C ?ho ?h1 ?h2 ?hq ?hcd ?hbind ?hloc ?hco ?hgen ?hk ?hcell ?_
  k_extra "my_enter"
  intro A₁ g L' h₁ tk mean mg mb hg Rd F N X T
  obtain rfl : g = s.heap := hg
  clear C
  k_steps
  rename_i l h2 _ h3 F2 N2
  refine Stop.go ?_
  have hl : s.heap.get? l = none := N2.fresh (List.Mem.head _)
  refine While_inv2 (L := L') (J := OChainJ w RR g₀ l ch) (n₀ := ch.length) F2 N2 ?J ?turn
  · exact .mk [] ch [] (.ref k) 0 rfl rfl rfl rfl rfl trivial (.inr ⟨k, rfl, hk⟩)
  · rintro n m₁ news₁ h₄ tk₁ F₁ N₁ ⟨pre, rem, dn, v, ep, rfl, rfl, hv, hf, rfl, hdn, hr⟩
    rw [m_at hv, m_at hf] at F₁
    rcases hr with ⟨rfl, rfl⟩ | ⟨k', rfl, hr⟩
    · k_unmd; try k_fold
      k_steps
      with_reducible rename Fr _ _ _ _ => F9
      with_reducible rename News _ _ _ _ => N9
      exact ret _ _ l _ _ (Keep.of_all F9.keep) (N9 _ (List.Mem.head _)).1 hl (by simpa using hdn)
    · obtain ⟨l1, rest, pv, rfl, hK, hn⟩ := ONx.step hr
      have hKL : OL w RR g₀ k' l1 := ⟨pv, hK⟩
      have hh : handedIn pv = true := by rcases hn with ⟨rfl, _⟩ | ⟨_, rfl, _⟩ <;> rfl
      have hz : dn.toArray.size ≤ sizeLine := fits (n := 2) (by have h1 := OC.len hk; have h2 := Refs.length hdn; simp at h1; omega) (by decide)
      obtain ⟨ro, dv, gg, f, a1, a2, a3, a4, a5, a6, a7, a8, a9⟩ := hK
      k_unmd; try k_fold
      k_steps
      with_reducible rename Fr _ _ _ _ => F9
      with_reducible rename News _ _ _ _ => N9
      exact ⟨_, _, _, _, rest.length, rfl, F9, N9, by simp, .mk (pre ++ [l1]) rest (dn ++ [.ref k']) pv (ep + 1) rfl (by simp) rfl rfl (by simp) (Refs.append hdn ⟨⟨_, rfl, hKL⟩, trivial⟩) hn⟩
/-- what is to be shown of the iterator, where the list goes into a local -/
noncomputable def BlkA (w : World) (A : Around) (env : Env) (scope : Scope) (cl : List (Str × Addr)) (x : Str) (ifs : List Expr) (elt : Expr) (y : Str) (Q : Flow → Shared → Prop) (it : Value) (s₂ : Shared) : Prop :=
  ∃ I fp wr n P St W J m, it = .ref I ∧ Walks RP w A I fp wr n P St ∧ n ≤ sizeLine ∧ St 0 s₂.heap ∧ (∀ b ∈ fp, b < s₂.heap.objs.size) ∧ (∀ b ∈ W, b ∉ fp) ∧ env.locals ∉ wr ∧ env.locals ∉ W ∧ s₂.heap.Ns env.locals m ∧
      (∀ i ys h h', J i ys h → (∀ b o, b ≠ env.locals → h.get? b = some o → h'.get? b = some o) → J i ys h') ∧
      CompJ w A env scope cl x ifs elt wr W n P J s₂ ∧
      (∀ h' tk (ys : List Value) ep, h'.get? s₂.heap.objs.size = some (PySem.W.listOf ys.toArray ep) → ys.length ≤ n → J n ys h' → h'.Ns env.locals (fun z => if z = y then some (.ref s₂.heap.objs.size) else m z) →
        (∀ b o, b ≠ env.locals → b ∉ wr → b ∉ W → s₂.heap.get? b = some o → h'.get? b = some o) → Q .next { s₂ with heap := h', toks := tk })

/-- y = [elt for x in iter if ..] -/
theorem assign_J {w : World} {A : Around} {E : Value → Shared → Prop} {env : Env} {elt iter : Expr} {x y : Str} {px py : Pos} {ifs : List Expr} {scope : Scope} {cl : List (Str × Addr)} {pos spos : Pos} {s : Shared} {Q : Flow → Shared → Prop}
    (hsw : swapsWith (.ListComp elt [⟨.Name x px, iter, ifs, 0⟩] scope pos) (some (.Name y py)) spos.line env = pure true)
    (hclos : closureFor scope env = pure cl) (hcell : ∀ y ∈ scope.names, y.2 ≠ .cell) (hkind : scope.kind = .function)
    (hnames : ∀ y ∈ scope.names, y.2 = .local → scope.names.lookup y.1 = some .local) (hx : scope.names.lookup x = some .local)
    (hy : env.kindOf y = some .local) (hp : (env.scope.kind == .class || (env.scope.kind == .module && env.locals != env.globals)) = false)
    (hs : ∀ x, foldedSetIterable iter env x = pure x)
    (h : wpAny (model RP w) A (eval iter env) (fun xv s₁ => wpAny (model RP w) A (pyIter xv) (BlkA w A env scope cl x ifs elt y Q) E s₁) E s) :
    wpAny (model RP w) A (exec (.Assign [.Name y py] (.ListComp elt [⟨.Name x px, iter, ifs, 0⟩] scope pos) spos) env) Q E s := by
  rw [exec_Assign_Name_used _ _ _ _ hsw]
  refine wpAny_bind (wpAny_standAt (wpAny_bind ?_))
  show wpAny _ A (do let _ ← comprehension (.ListComp elt [⟨.Name x px, iter, ifs, 0⟩] scope pos) scope env _ (newList []) false (eval iter env) (some (assign (.Name y py) env))) _ _ s
  refine wpAny_bind (wpAny_mono (wpAny_comprehension_free (use := some (assign (.Name y py) env)) (Q := fun _ s' => Q .next s') rfl hs hclos hkind hnames
    (wpAny_mono h (fun xv s₁ h₁ => wpAny_mono h₁ (fun it s₂ h₂ => ?_) fun _ _ e => e) fun _ _ e => e)) (fun _ s' hq => wpAny_pure (wpAny_pure hq)) fun _ _ e => e)
  obtain ⟨I, fp, wr, n, P, St, W, J, m, rfl, Wk, hsz, hst, hfp, hWf, hLf, hLW, hn, stL, hq, hQ⟩ := h₂
  refine comp_block_J (RR := fun acc C => compPost (model RP w) A E (some (assign (.Name y py) env)) (fun _ s' => Q .next s') acc C) Wk hsz hcell hkind hx hst hfp hWf hq ?_
  intro h' tk m' ys ep hnC hl hle hJ hk
  have hLlt : @LT.lt Nat _ env.locals s₂.heap.objs.size := by obtain ⟨o, _, _, ho, _⟩ := hn; exact nlt ho
  have hLC : @Ne Nat env.locals (s₂.heap.objs.size + 1) := neN (by omega)
  have hLD : @Ne Nat s₂.heap.objs.size env.locals := neN (by omega)
  show wpAny _ A (assign (.Name y py) env (.ref _)) _ _ _
  refine wpAny_assign_Name (wpAny_storeName_local hy (hn.at' fun o e => hk _ o hLf hLW e) (fun h₂ hn₂ hs₂ => ?_) hp)
  refine ⟨m', hnC.sameBut hs₂ (Ne.symm hLC), fun h₃ hs₃ => ?_⟩
  exact hQ h₃ _ ys ep (hs₃.extBut _ _ (neN (by omega)) (hs₂.extBut _ _ hLD hl)) hle (hq.stay _ _ _ _ (stL _ _ _ _ hJ fun b o hb e => hs₂.extBut b o hb e) fun b o _ hlo e => hs₃.extBut b o (neN (by omega)) e) (hn₂.sameBut hs₃ hLC)
    fun b o hbL hb hW e => hs₃.extBut b o (by have := nlt e; exact neN (by omega)) (hs₂.extBut b o hbL (hk b o hb hW e))

/-- the same over a list that stands -/
theorem BlkA.list {w : World} {A : Around} {E : Value → Shared → Prop} {env : Env} {elt : Expr} {x y : Str} {ifs : List Expr} {scope : Scope} {cl : List (Str × Addr)} {s : Shared} {Q : Flow → Shared → Prop} {l : Addr} {vs : Array Value} {ep : Nat} {g : Heap} {m : Str → Option Value}
    (hh : A.handled = none) (F : Fr g env.locals s.heap m) (J : Nat → List Value → Prop) (hl : s.heap.get? l = some (PySem.W.listOf vs ep)) (hlL : @Ne Nat l env.locals) (hsz : vs.size ≤ sizeLine) (start : J 0 [])
    (turn : ∀ i v ys h tk m₃ E', vs[i]? = some v → J i ys → h.Ns (s.heap.objs.size + 2) m₃ → m₃ x = some v → Keep [] s.heap h →
      wpAny (model RP w) A (forIn ifs true fun c r => if r = true then do let ok ← isTrue c (compEnvC scope cl (s.heap.objs.size + 2) env) (eval c (compEnvC scope cl (s.heap.objs.size + 2) env)); pure (ForInStep.yield ok) else pure (ForInStep.yield r))
        (fun ok s₄ => if ok = true then
            wpAny (model RP w) A (eval elt (compEnvC scope cl (s.heap.objs.size + 2) env)) (fun y s₅ => TEnd s [] h (fun _ => J (i + 1) (ys ++ [y])) s₅) E' s₄
          else TEnd s [] h (fun _ => J (i + 1) ys) s₄) E' { s with heap := h, toks := tk })
    (done : ∀ D h' tk (ys : List Value) ep', s.heap.get? D = none → h'.get? D = some (PySem.W.listOf ys.toArray ep') → @Ne Nat D env.locals → ys.length ≤ vs.size → J vs.size ys → Fr g env.locals h' (fun z => if z = y then some (.ref D) else m z) → Keep [env.locals] s.heap h' → Q .next { s with heap := h', toks := tk }) :
    wpAny (model RP w) A (pyIter (.ref l)) (BlkA w A env scope cl x ifs elt y Q) E s := by
  have hls : s.heap.IsList l vs := ⟨_, hl, rfl, _, rfl⟩
  have hlt := nlt hl
  have hne : l ≠ s.heap.objs.size := neN (by omega)
  have hL : @LT.lt Nat _ env.locals s.heap.objs.size := F.ns.lt
  refine wpAny_pyIter_list hls ?_
  have up : ∀ (o : Obj) b x, s.heap.get? b = some x → (s.heap.push o).get? b = some x := fun o b x e => Heap.get?_push_of_some o e
  have offI : ∀ b o, s.heap.get? b = some o → b ∉ [s.heap.objs.size] := fun b o e q => absurd (nlt e) (by rw [List.mem_singleton.mp q]; exact Nat.lt_irrefl _)
  refine ⟨_, _, _, vs.size, _, _, [], fun i ys _ => J i ys, m, rfl, Walks.list (prog := RP) (w := w) hh s.heap.objs.size l hne vs, hsz, ⟨⟨_, Heap.get?_push_size _ rfl, rfl, rfl⟩, hls.at fun o e => up _ _ _ e⟩, ?_, (fun _ h => nomatch h), ?_, (fun h => nomatch h), (F.push _).ns, (fun _ _ _ _ j _ => j), ?_, ?_⟩
  · intro b hb
    show @LT.lt Nat _ b _
    rw [Heap.size_push]
    rcases List.mem_cons.mp hb with rfl | hb
    · exact Nat.lt_succ_self _
    · rw [List.mem_singleton.mp hb]; omega
  · intro hm
    exact Nat.ne_of_lt hL (List.mem_singleton.mp hm)
  · refine ⟨(fun _ h => nomatch h), (fun _ _ _ _ j _ => j), start, ?_⟩
    intro i v ys s₃ m₃ E' hs₃ hi hP hj hn hm hk
    obtain ⟨h, tk, rfl⟩ := hs₃
    rw [Heap.size_push] at hn ⊢
    exact turn i v ys h tk m₃ E' hP hj hn hm fun b o _ e => hk b o (offI b o e) (fun h => nomatch h) (up _ _ _ e)
  · intro h' tk ys ep' hl' hle hj hns hk
    rw [Heap.size_push] at hl' hns
    have hD : s.heap.get? (s.heap.objs.size + 1) = none := by
      cases q : s.heap.get? (s.heap.objs.size + 1) with
      | none => rfl
      | some o => exact absurd (nlt q) (by omega)
    refine done (s.heap.objs.size + 1) h' tk ys ep' hD hl' (neN (by omega)) hle hj ⟨hns, fun b o e => ?_, F.above⟩ fun b o hb e => hk b o (by simpa using hb) (offI b o e) (fun h => nomatch h) (up _ _ _ e)
    have e' := F.keep b o e
    have hbL : b ≠ env.locals := fun q => by
      have h1 := nlt e
      have h2 : @LE.le Nat _ g.objs.size env.locals := F.above
      rw [q] at h1
      omega
    exact hk b o hbL (offI b o e') (fun h => nomatch h) (up _ _ _ e')
theorem pick_one (u : Value) (us : List Value) : slicePick (u :: us).toArray none (some 1) none = #[u] := Array.toList_inj.mp (by rw [pick1]; rfl)
theorem pick_nil : slicePick ([] : List Value).toArray none (some 1) none = #[] := Array.toList_inj.mp (by rw [pick1]; rfl)
theorem binds_dflt {α : Type} {ch : Ch α} {e : Ky} (h : rowsOf ch e = []) : bindsOf ch e true = ((dfltsOf ch).map .cmd).take 1 := by unfold bindsOf; rw [h]; simp [List.map_take]

/-- the data are dicts -/
noncomputable def Dic {α : Type} (w : World) (RR : Heap → Addr → α → Prop) : Prop := ∀ h a x, RR h a x → ∃ f, h.MapOf (mix RP w) a f
theorem OC.dic {α : Type} {w : World} {R : Heap → Addr → α → Prop} : Dic w (OC w R) := by
  intro h a x r
  match x, r with
  | [l], .mk _ _ g _ a1 _ _ _ _ _ _ _ _ => exact ⟨g, a1⟩
  | [l, l2], ⟨_, .mk _ _ g _ a1 _ _ _ _ _ _ _ _, _⟩ => exact ⟨g, a1⟩
theorem RE.dic {w : World} : Dic w RE := fun _ _ _ r => r.elim
theorem dict_type {w : World} {s : Shared} {h₀ : Heap} {L a : Addr} {m : Str → Option Value} {f : Ky → Option Value} (F : Fr h₀ L s.heap m) (hm : h₀.MapOf (mix RP w) a f) : s.TypeIs (.ref a) "dict" := (Heap.MapOf.grow hm F.keep).typeIs

inductive OneJ {α : Type} (RR : Heap → Addr → α → Prop) (g₀ : Heap) (f : Addr) (bs : List (Bd α)) (i : Nat) (m : Str → Option Value) (news : List (Addr × Obj)) : Prop
  | mk (dn : List Value) (xs : List α) (ep : Nat) (a1 : m (PySem.Str.ofString "found") = some (.ref f)) (a2 : news = [(f, PySem.W.listOf dn.toArray ep)]) (a3 : Refs RR g₀ dn xs) (a4 : subsOf bs = xs ++ subsOf (bs.drop i)) (a5 : dn.length ≤ i)

theorem news_put {h₀ h h' : Heap} {L D : Addr} {m : Str → Option Value} {o : Obj} {news : List (Addr × Obj)} (N : News h₀ L h news) (F : Fr h₀ L h m) (k : Keep [L] h h') (hl : h'.get? D = some o) (hn : h.get? D = none) (hDL : @Ne Nat D L) : News h₀ L h' ((D, o) :: news) := by
  intro p hp
  rcases List.mem_cons.mp hp with rfl | hp
  · refine ⟨hl, hDL, ?_⟩
    cases q : h₀.get? D with
    | none => rfl
    | some o' => have := F.keep _ _ q; rw [hn] at this; cases this
  · exact ⟨k _ _ (by simpa using (N p hp).2.1) (N p hp).1, (N p hp).2⟩

theorem law_one_code {α : Type} {RR : Heap → Addr → α → Prop} {w : World} {A : Around} {s : Shared} {R : Result → Shared → Prop} {k : Addr} {ch : Ch α} {e : Ky} {v : Value} {td : Bool}
    (C : Rdy w A 5 s.heap []) (hD : Dic w RR) {g₀ : Heap} (hg₀ : Keep [] g₀ s.heap) (hk : OC w RR g₀ k ch) (he : kyIs e v = true)
    (ret : ∀ (h' : Heap) (tk' : Nat) v, Keep [] s.heap h' → RV RR g₀ s.heap h' v (firstOf ch e td) → R (.ok (.ret v)) { s with heap := h', toks := tk' }) :
    codeAny (model RP w) A (.call (.ref 264) ⟨[.ref k, v, .bool td], []⟩) R s := by
  refine' enterC (n := 4) (fun p => defAt p 36) (binds := [(PySem.Str.ofString "own", .ref k), (PySem.Str.ofString "event", v), (PySem.Str.ofString "has_default", .bool td)]) (PySem.Str.ofString "_law_one") C ?ho ?h1 ?h2 ?hq ?hcd ?hbind ?hkind ?hnd ?hco ?hgen ?hk ?_
  k_extra "my_enterC"
  intro A₁ g L' h₁ tk cells mean mg mb hg Rd F N Y X T
  obtain rfl : g = s.heap := hg
  clear C
  obtain ⟨o, rfl, hc⟩ := CellsAre.one Y
  k_steps
  refine Stop.go ?_
  k_unmd; try k_fold
  refine assign_J (cl := [(PySem.Str.ofString "event", L' + 1)]) ?hsw ?hclos ?hcell ?hkind ?hnames ?hx ?hy ?hp ?hs ?_
  case hsw => with_unfolding_all rfl
  case hclos => with_unfolding_all rfl
  case hcell => decide
  case hkind => exact rfl
  case hnames => decide
  case hx => exact rfl
  case hy => exact rfl
  case hp => exact rfl
  case hs => intro _; with_unfolding_all rfl
  k_steps
  refine Stop.go ?_
  refine BlkA.list (Rd _ _ _ F N).handled F5 (fun i ys => Vals RR g₀ ys (rowsOf (ch.take i) e)) hl5 (N5 _ (.head _)).2.1 (fits' (OC.len hk) (Refs.length hR5)) trivial ?turn ?done
  case turn =>
    intro i vx ys h6 tk6 m6 E6 hv6 hj6 hn6 hm6 kp6
    obtain ⟨a, l, rfl, hl6, pv, ro, dv, gg, f, a1, a2, a3, a4, a5, a6, a7, a8, a9⟩ := Refs.get hR5 (by simpa using hv6)
    have F6 := Keep.fr kp6 F5
    have hc6 : h6.IsCell (L' + 1) (some v) := ⟨o, kp6.all _ _ (News.get N5 (.tail _ (.head _))), hc⟩
    have kt : Keep [] h6 h6 := Keep.refl _ _
    have st := rows_step hl6 (a8 e) hj6
    k_unmd; try k_fold
    refine tests_one ?_
    k_steps
    · rename Option.isSome _ = true => hb
      obtain ⟨x, hx⟩ := Option.isSome_iff_exists.mp hb
      k_steps
      exact TEnd.mk kt (st.1 x hx)
    · rename Option.isSome _ = false => hb
      exact TEnd.mk kt (st.2 (Option.not_isSome_iff_eq_none.mp (by rw [hb]; exact Bool.false_ne_true)))
  case done =>
    intro D h6 tk6 ys ep6 hD hl6 hDL hle hj F6 kp6
    have hch : ch.take vs5.size = ch := List.take_of_length_le (by rw [← Refs.length hR5, Array.length_toList]; exact Nat.le_refl _)
    rw [hch] at hj
    have N6 := news_put N5 F5 kp6 hl6 hD hDL
    clear F5 N5 kp6 kp5 hD hl5
    rcases ys with _ | ⟨u5, us5⟩
    · cases td
      · k_steps
        try dsimp only
        with_reducible rename Fr _ _ _ _ => F9
        have h0 : rowsOf ch e = [] := List.length_eq_zero_iff.mp hj.length.symm
        exact ret _ _ _ (Keep.of_all F9.keep) (by unfold firstOf bindsOf; rw [h0]; exact .none rfl rfl)
      · k_steps
        with_reducible rename Fr _ _ _ _ => F7
        with_reducible rename News _ _ _ _ => N7
        refine Stop.go ?_
        k_unmd; try k_fold
        refine comp_J (cl := []) ?hclos ?hcell ?hkind ?hnames ?hx ?hs ?_
        case hclos => with_unfolding_all rfl
        case hcell => decide
        case hkind => exact rfl
        case hnames => decide
        case hx => exact rfl
        case hs => intro _; with_unfolding_all rfl
        k_steps
        refine Stop.go ?_
        rename News _ _ h5 _ => N8
        rename Fr _ _ h5 _ => F8
        refine Blk.list (Rd _ _ _ F N).handled [] (DfltJ RR g₀ ch) hl5 (fits' (OC.len hk) (Refs.length hR5)) (fun _ h => nomatch h) (fun h => nomatch h) (fun _ _ _ _ j _ => ⟨j.1⟩) ⟨trivial⟩ ?turn ?done
        case turn =>
          intro i vx ys h6 tk6 m6 E6 hv6 hj6 hn6 hm6 kp6
          obtain ⟨a, l, rfl, hl6, pv, ro, dv, gg, f, a1, a2, a3, a4, a5, a6, a7, a8, a9⟩ := Refs.get hR5 (by simpa using hv6)
          have F6 := Keep.fr kp6 F8
          have kt : Keep [] h6 h6 := Keep.refl _ _
          have st := dflt_step hl6 a9 hj6.1
          generalize q : l.dflt = o9 at a9
          induction a9 using VD.ind with
          | none =>
            k_unmd; try k_fold
            refine tests_one ?_
            k_steps
            exact TEnd.mk kt ⟨st.2 (by rw [q]; rfl)⟩
          | str c t =>
            k_unmd; try k_fold
            refine tests_one ?_
            k_steps
            exact TEnd.mk kt ⟨st.1 (by rw [q]; rfl)⟩
        case done =>
          intro h6 tk6 ys ep6 hl6 hle6 hj6 kp6
          have hch : ch.take vs5.size = ch := List.take_of_length_le (by rw [← Refs.length hR5, Array.length_toList]; exact Nat.le_refl _)
          have hj7 := hj6.1
          rw [hch] at hj7
          have F6 := Keep.fr kp6 F8
          have N6 := Keep.add kp6 F8 N8 hl6 (by
            cases q : h5.get? (h5.objs.size + 1) with
            | none => rfl
            | some o => exact absurd (nlt q) (by omega))
          have hz6 : ys.toArray.size ≤ sizeLine := by rw [List.size_toArray, sizeLine_eq]; have := fits' (OC.len hk) (Refs.length hR5); rw [sizeLine_eq] at this; omega
          have h0 : rowsOf ch e = [] := List.length_eq_zero_iff.mp hj.length.symm
          have hb0 := binds_dflt h0
          rcases ys with _ | ⟨u5, us5⟩
          · have hd0 : (dfltsOf ch).map (Bd.cmd (α := α)) = [] := List.length_eq_zero_iff.mp hj7.length.symm
            rw [hd0] at hb0
            k_steps
            try dsimp only
            with_reducible rename Fr _ _ _ _ => F9
            exact ret _ _ _ (Keep.of_all F9.keep) (by unfold firstOf; rw [hb0]; exact .none rfl rfl)
          · obtain ⟨b5, r5, hb5, hB5, hr5⟩ := Vals.cons hj7
            rw [hb5] at hb0
            obtain ⟨c, hc5⟩ : ∃ c, b5 = .cmd c := by
              cases q : dfltsOf ch with
              | nil => rw [q] at hb5; cases hb5
              | cons c r => rw [q] at hb5; cases hb5; exact ⟨c, rfl⟩
            subst hc5
            obtain ⟨t, rfl⟩ := VB.cmd hB5
            k_steps
            all_goals first | (rename isNil _ = true => hq; cases hq; done) | skip
            try dsimp only
            with_reducible rename Fr _ _ _ _ => F9
            exact ret _ _ _ (Keep.of_all F9.keep) (by unfold firstOf; rw [hb0]; exact .cmd _ _ rfl rfl)
    · obtain ⟨b5, r5, hb5, hB5, hr5⟩ := Vals.cons hj
      have hbs : bindsOf ch e td = b5 :: r5 := by unfold bindsOf; rw [hb5]
      induction hB5 using VB.ind with
      | none hB5 =>
        k_steps
        all_goals first | (rename isNil _ = false => hq; cases hq; done) | skip
        try dsimp only
        with_reducible rename Fr _ _ _ _ => F9
        exact ret _ _ _ (Keep.of_all F9.keep) (by unfold firstOf; rw [hbs]; exact .none rfl rfl)
      | str c t hB5 =>
        k_steps
        all_goals first | (rename isNil _ = true => hq; cases hq; done) | skip
        try dsimp only
        with_reducible rename Fr _ _ _ _ => F9
        exact ret _ _ _ (Keep.of_all F9.keep) (by unfold firstOf; rw [hbs]; exact .cmd c t rfl rfl)
      | ref a x hx =>
        obtain ⟨ff, hm7⟩ := hD _ _ _ hx
        have hV : Vals RR g₀ (.ref a :: us5) (.sub x :: r5) := ⟨hx, hr5⟩
        have e1 : firstOf ch e td = .maps (subsOf (.sub x :: r5)) := by unfold firstOf; rw [hbs]; rfl
        have hz8 : us5.length ≤ 8 := by have h1 := hle; have h2 := OC.len hk; have h3 := Refs.length hR5; simp at h1 h3; omega
        k_steps
        all_goals first | (rename isNil _ = true => hq; cases hq; done) | skip
        with_reducible rename Fr _ _ _ _ => F2
        with_reducible rename News _ _ _ _ => N2
        have hzD : @LE.le Nat _ (Value.ref a :: us5).toArray.size 9 := by rw [List.size_toArray]; simp; omega
        rw [e1] at ret
        refine Stop.go (loop_list (OneJ RR g₀ _ (.sub x :: r5)) (Rd _ _ _ F2 N2).handled (N2.get (by k_mem)) hDL (fun p hp => by rw [List.mem_singleton.mp hp]; exact (by k_ne)) F2 (News.only N2 (.head _)) (.mk [] [] 0 rfl rfl trivial rfl (Nat.zero_le _)) ?turn2 ?done2)
        case turn2 =>
          intro i v' m₁ news₁ h6 tk6 own hv6 hadr hoff hJ F6 N6
          obtain ⟨dn, xs, ep', a1, rfl, a3, a4, a5⟩ := hJ
          simp only [List.map_cons, List.map_nil] at hoff
          have hi := (Array.getElem?_eq_some_iff.mp hv6).1
          have hz6 : dn.toArray.size ≤ sizeLine := by rw [List.size_toArray, sizeLine_eq]; omega
          rw [m_at a1] at F6
          obtain ⟨b, hb, hVB⟩ := Vals.get hV (by simpa using hv6)
          rw [drop_at hb] at a4
          induction hVB using VB.ind with
          | none hVB =>
            k_unmd; try k_fold
            k_steps
            with_reducible rename Fr _ _ _ _ => F9
            with_reducible rename News _ _ _ _ => N9
            exact InvEndN.intro F9 N9 (.mk dn xs ep' rfl rfl a3 a4 (by omega)) rfl (fun p hp => List.mem_append_left _ hp) (fun p hp => List.mem_append_right _ hp)
          | str c t hVB =>
            k_unmd; try k_fold
            k_steps
            with_reducible rename Fr _ _ _ _ => F9
            with_reducible rename News _ _ _ _ => N9
            have a6 : subsOf (Bd.sub x :: r5) = xs := by rw [a4]; exact List.append_nil _
            exact ret _ _ _ (Keep.of_all F9.keep) (.maps _ _ ep' x (subsOf r5) rfl rfl (N9.get (by k_mem)) (N9.fresh (o := PySem.W.listOf dn.toArray ep') (by k_mem)) (by rw [← a6] at a3; exact a3))
          | ref a' y hy =>
            obtain ⟨ff', hm8⟩ := hD _ _ _ hy
            k_unmd; try k_fold
            k_steps
            refine call_isinstance_yes (dict_type (f := ff') (by k_asm) (Heap.MapOf.grow hm8 hg₀.all)) PySem.F.isi_meta_dict PySem.F.isi_self_dict ?_
            k_steps
            with_reducible rename Fr _ _ _ _ => F9
            with_reducible rename News _ _ _ _ => N9
            exact InvEndN.intro F9 N9 (.mk (dn ++ [.ref a']) (xs ++ [y]) (ep' + 1) rfl rfl (Refs.append a3 ⟨⟨_, rfl, hy⟩, trivial⟩) (by rw [a4]; simp [subsOf]) (by simp; omega)) rfl (fun p hp => by rw [List.mem_singleton.mp hp]; simp) (fun p hp => List.mem_cons_of_mem _ hp)
        case done2 =>
          intro m₁ news₁ h6 tk6 hJ F6 N6
          obtain ⟨dn, xs, ep', a1, rfl, a3, a4, a5⟩ := hJ
          rw [m_at a1] at F6
          have hd : (Bd.sub x :: r5).drop (Value.ref a :: us5).toArray.size = [] := List.drop_of_length_le (by rw [List.size_toArray, hV.length]; exact Nat.le_refl _)
          rw [hd] at a4
          have a6 : subsOf (Bd.sub x :: r5) = xs := by rw [a4]; exact List.append_nil _
          k_steps
          try dsimp only
          with_reducible rename Fr _ _ _ _ => F9
          with_reducible rename News _ _ _ _ => N9
          exact ret _ _ _ (Keep.of_all F9.keep) (.maps _ _ ep' x (subsOf r5) rfl rfl (N9.get (by k_mem)) (N9.fresh (o := PySem.W.listOf dn.toArray ep') (by k_mem)) (by rw [← a6] at a3; exact a3))
theorem ofirst_size {α : Type} {RR : Heap → Addr → α → Prop} {w : World} {g₀ : Heap} {k : Addr} {ch : Ch α} {e : Ky} {td : Bool} {vs : Array Value} {xs : List α} (hk : OC w RR g₀ k ch) (h : firstOf ch e td = .maps xs) (hV : Refs RR g₀ vs.toList xs) : vs.size ≤ 2 := by
  have h1 := hV.length
  rw [Array.length_toList] at h1
  rw [h1]
  exact Nat.le_trans (first_len h) (OC.len hk)

/-- loop_list, with breaks: what holds behind the loop is said once -/
theorem loop_fin {w : World} {A : Around} {E : Value → Shared → Prop} {s : Shared} {env : Env} {h₀ : Heap} {x : Str} {body : List Stmt} {Q : Flow → Shared → Prop} {l : Addr} {vs : Array Value} {ep : Nat} {m₀ : Str → Option Value} {news : List (Addr × Obj)}
    (J : Nat → (Str → Option Value) → List (Addr × Obj) → Prop) (B : (Str → Option Value) → List (Addr × Obj) → Prop) (hh : A.handled = none) (hl : s.heap.get? l = some (PySem.W.listOf vs ep)) (hlL : l ≠ env.locals) (hln : ∀ p ∈ news, p.1 ≠ l)
    (F : Fr h₀ env.locals s.heap m₀) (N : News h₀ env.locals s.heap news) (hj : J 0 m₀ news) (hjb : ∀ m n, J vs.size m n → B m n)
    (fin : ∀ m₁ news₁ h tk, B m₁ news₁ → Fr h₀ env.locals h m₁ → News h₀ env.locals h news₁ → Q .next { s with heap := h, toks := tk })
    (turn : (∀ m₁ news₁ h tk, B m₁ news₁ → Fr h₀ env.locals h m₁ → News h₀ env.locals h news₁ → Q .next { s with heap := h, toks := tk }) →
      ∀ i v m₁ news₁ h tk own, vs[i]? = some v → news₁.map (·.1) = news.map (·.1) → OwnOff own (news.map (·.1)) → J i m₁ news₁ → Fr h₀ env.locals h (fun y => if y = x then some v else m₁ y) → News h₀ env.locals h (news₁ ++ own) →
      wpAny (model RP w) A (execs body env) (InvPostN h₀ env.locals (J (i + 1)) own (news.map (·.1)) { s with heap := h, toks := tk } Q) E { s with heap := h, toks := tk }) :
    wpAny (model RP w) A (pyIter (.ref l)) (fun it s₂ => LoopAtV RP w A h₀ env x body Q E it s₂) E s :=
  loop_list J hh hl hlL hln F N hj (turn fin) fun m n h tk j F N => fin m n h tk (hjb m n j) F N

/-- what _law_found gives -/
inductive FK (h h' : Heap) (v : Value) (o : Out) : Prop
  | none (e1 : v = .none) (e2 : o = .none)
  | pre (t : Tok) (e1 : v = .str (PySem.Str.ofString "more") t) (e2 : o = .pre)
  | cmd (t : Addr) (tc : Tok) (c : Str) (n : Nat) (e1 : v = .ref t) (e2 : o = .cmd c) (h1 : h'.get? t = some (tupOf #[.str c tc] n)) (h2 : h.get? t = none)

theorem news_swap {h₀ h : Heap} {L : Addr} {a b : Addr × Obj} {r : List (Addr × Obj)} (N : News h₀ L h (a :: b :: r)) : News h₀ L h (b :: a :: r) := fun p hp => by
  rcases List.mem_cons.mp hp with rfl | hp
  · exact N _ (.tail _ (.head _))
  · rcases List.mem_cons.mp hp with rfl | hp
    · exact N _ (.head _)
    · exact N _ (.tail _ (.tail _ hp))
/-- what one walk over the maps ends in: the submaps, a command -/
noncomputable def resOf {α : Type} : List α → Option Str → Res α
  | [], none => .none
  | [], some c => .cmd c
  | x :: xs, _ => .maps (x :: xs)
theorem found_end {α : Type} {e : Ky} {td : Bool} (xs : List α) : foundOf e td [] xs = resOf xs none := by cases xs <;> rfl
theorem found_brk {α : Type} {e : Ky} {td : Bool} {ch : Ch α} {r : List (Ch α)} {c : Str} (h : firstOf ch e td = .cmd c) (xs : List α) : foundOf e td (ch :: r) xs = resOf xs (some c) := by
  cases xs with
  | nil => exact fs_cmd0 h
  | cons x xs => exact fs_cmd1 h

inductive FndJ {α : Type} (RR : Heap → Addr → α → Prop) (g₀ : Heap) (f kt : Addr) (e : Ky) (td : Bool) (chs : List (Ch α)) (ev : Value) (rest : List (Addr × Obj)) (i : Nat) (m : Str → Option Value) (news : List (Addr × Obj)) : Prop
  | mk (dn : List Value) (xs : List α) (ep : Nat) (a1 : m (PySem.Str.ofString "inner") = some (.ref f)) (a2 : news = (f, PySem.W.listOf dn.toArray ep) :: rest) (a3 : Refs RR g₀ dn xs) (a4 : foundOf e td chs [] = foundOf e td (chs.drop i) xs) (a5 : dn.length ≤ 2 * i)
      (a6 : m (PySem.Str.ofString "events") = some (.ref kt)) (a7 : m (PySem.Str.ofString "at") = some ev) (a8 : m (PySem.Str.ofString "has_default") = some (.bool td)) (a9 : m (PySem.Str.ofString "my_plain") = some .none)
inductive FndB {α : Type} (RR : Heap → Addr → α → Prop) (g₀ : Heap) (f kt : Addr) (e : Ky) (td : Bool) (chs : List (Ch α)) (ev : Value) (rest : List (Addr × Obj)) (m : Str → Option Value) (news : List (Addr × Obj)) : Prop
  | mk (dn : List Value) (xs : List α) (ep : Nat) (pv : Value) (o : Option Str) (a1 : m (PySem.Str.ofString "inner") = some (.ref f)) (a2 : news = (f, PySem.W.listOf dn.toArray ep) :: rest) (a3 : Refs RR g₀ dn xs) (a4 : foundOf e td chs [] = resOf xs o) (a5 : VD pv o)
      (a6 : m (PySem.Str.ofString "events") = some (.ref kt)) (a7 : m (PySem.Str.ofString "at") = some ev) (a8 : m (PySem.Str.ofString "has_default") = some (.bool td)) (a9 : m (PySem.Str.ofString "my_plain") = some pv)

theorem loop_fnd {α : Type} {RR : Heap → Addr → α → Prop} {g₀ : Heap} {f kt : Addr} {e : Ky} {td : Bool} {chs : List (Ch α)} {ev : Value} {rest : List (Addr × Obj)} {w : World} {A : Around} {E : Value → Shared → Prop} {s : Shared} {env : Env} {h₀ : Heap} {x : Str} {body : List Stmt} {Q : Flow → Shared → Prop} {l : Addr} {vs : Array Value} {ep : Nat} {m₀ : Str → Option Value} {news : List (Addr × Obj)}
    (hh : A.handled = none) (hl : s.heap.get? l = some (PySem.W.listOf vs ep)) (hlL : l ≠ env.locals) (hln : ∀ p ∈ news, p.1 ≠ l)
    (F : Fr h₀ env.locals s.heap m₀) (N : News h₀ env.locals s.heap news) (hj : FndJ RR g₀ f kt e td chs ev rest 0 m₀ news) (hs : vs.size = chs.length)
    (fin : ∀ m₁ news₁ h tk, FndB RR g₀ f kt e td chs ev rest m₁ news₁ → Fr h₀ env.locals h m₁ → News h₀ env.locals h news₁ → Q .next { s with heap := h, toks := tk })
    (turn : ∀ Q : Flow → Shared → Prop, (∀ m₁ news₁ h tk, FndB RR g₀ f kt e td chs ev rest m₁ news₁ → Fr h₀ env.locals h m₁ → News h₀ env.locals h news₁ → Q .next { s with heap := h, toks := tk }) →
      ∀ i v m₁ news₁ h tk own, vs[i]? = some v → news₁.map (·.1) = news.map (·.1) → OwnOff own (news.map (·.1)) → FndJ RR g₀ f kt e td chs ev rest i m₁ news₁ → Fr h₀ env.locals h (fun y => if y = x then some v else m₁ y) → News h₀ env.locals h (news₁ ++ own) →
      wpAny (model RP w) A (execs body env) (InvPostN h₀ env.locals (FndJ RR g₀ f kt e td chs ev rest (i + 1)) own (news.map (·.1)) { s with heap := h, toks := tk } Q) E { s with heap := h, toks := tk }) :
    wpAny (model RP w) A (pyIter (.ref l)) (fun it s₂ => LoopAtV RP w A h₀ env x body Q E it s₂) E s :=
  loop_fin _ (FndB RR g₀ f kt e td chs ev rest) hh hl hlL hln F N hj (by
    rintro m nw ⟨dn, xs, ep', a1, rfl, a3, a4, a5, a6, a7, a8, a9⟩
    have hd : chs.drop vs.size = [] := List.drop_of_length_le (by rw [hs]; exact Nat.le_refl _)
    rw [hd, found_end] at a4
    exact .mk dn xs ep' .none none a1 rfl a3 a4 trivial a6 a7 a8 a9) fin (turn Q)

theorem law_found1_code {α : Type} {RR : Heap → Addr → α → Prop} {w : World} {A : Around} {s : Shared} {R : Result → Shared → Prop} {l kt : Addr} {vs : Array Value} {ep n : Nat} {chs : List (Ch α)} {e : Ky} {v : Value} {td : Bool}
    (C : Rdy w A 7 s.heap [(kt, tupOf #[v] n)]) (hD : Dic w RR) {g₀ : Heap} (hg₀ : Keep [] g₀ s.heap) (hkn : g₀.get? kt = none) (hl : s.heap.get? l = some (PySem.W.listOf vs ep)) (hV : Refs (OC w RR) g₀ vs.toList chs) (hz : vs.size ≤ 1000) (he : kyIs e v = true)
    (ret : ∀ (h' : Heap) (tk' : Nat) v, Keep [] s.heap h' → FK s.heap h' v (out1 chs e td) → R (.ok (.ret v)) { s with heap := h', toks := tk' }) :
    codeAny (model RP w) A (.call (.ref 271) ⟨[.ref l, .ref kt, .bool td], []⟩) R s := by
  refine' enter (n := 6) (fun p => defAt p 37) (binds := [(PySem.Str.ofString "owns", .ref l), (PySem.Str.ofString "events", .ref kt), (PySem.Str.ofString "has_default", .bool td)]) (PySem.Str.ofString "_law_found") C ?ho ?h1 ?h2 ?hq ?hcd ?hbind ?hloc ?hco ?hgen ?hk ?hcell ?_
  k_extra "my_enter"
  intro A₁ g L' h₁ tk mean mg mb hg Rd F N X T
  have hkt := C.at (.head _)
  have hz1 : vs.size ≤ sizeLine := by rw [sizeLine_eq]; omega
  have hl₁ := hide_at hl (cls_ne hl hkt lt_ne) hg
  replace hg₀ := keep_hide hg₀ hkn hg
  clear C
  obtain ⟨ah, dp, ev, gd, un⟩ := A₁
  obtain rfl : ah = none := (Rd _ _ _ F N).handled
  k_steps
  refine Stop.go ?_
  k_rangeUnr
  k_steps
  refine For_invV g rfl rfl ?_ (by intro _; with_unfolding_all rfl)
  k_steps
  with_reducible rename Fr _ _ _ _ => F2
  with_reducible rename News _ _ _ _ => N2
  have N3 := news_swap N2
  refine Stop.go (loop_fnd (RR := RR) (g₀ := g₀) (kt := kt) (td := td) (e := e) (chs := chs) (Rd _ _ _ F2 N2).handled (F2.keep _ _ hl₁) (old_ne F2 hl₁) (new_ne N3 hl₁) F2 N3 (.mk [] [] 0 rfl rfl trivial rfl (Nat.zero_le _) rfl rfl rfl rfl) (by rw [← hV.length, Array.length_toList]) ?fin ?turn)
  case fin =>
    rintro m₁ news₁ h6 tk6 ⟨dn, xs, ep', pv, oo, a1, rfl, a3, a4, a5, a6, a7, a8, a9⟩ F6 N6
    rw [m_at a1, m_at a6, m_at a7, m_at a8, m_at a9] at F6
    induction a5 using VD.ind with
    | none =>
      k_steps
      all_goals
        with_reducible rename Fr _ _ _ _ => F9
        with_reducible rename News _ _ _ _ => N9
      · rename (_ == 0) = true => hq
        obtain rfl := refs_none (vs := dn.toArray) a3 hq
        exact ret _ _ _ (keep_one hkt hg F9 N9 (by k_mem)) (.none rfl (by unfold out1; rw [a4]; rfl))
      · rename (_ == 0) = false => hq
        obtain ⟨x, r, rfl⟩ := refs_some (vs := dn.toArray) a3 hq
        try dsimp only
        exact ret _ _ _ (keep_one hkt hg F9 N9 (by k_mem)) (.pre _ rfl (by unfold out1; rw [a4]; rfl))
    | str c t =>
      k_steps
      all_goals
        with_reducible rename Fr _ _ _ _ => F9
        with_reducible rename News _ _ _ _ => N9
      · rename (_ == 0) = true => hq
        obtain rfl := refs_none (vs := dn.toArray) a3 hq
        exact ret _ _ _ (keep_one hkt hg F9 N9 (by k_mem)) (.cmd _ _ _ _ rfl (by unfold out1; rw [a4]; rfl) (N9 _ (.head _)).1 (fresh_one hg N9 (.head _) ((by k_ne))))
      · rename (_ == 0) = false => hq
        obtain ⟨x, r, rfl⟩ := refs_some (vs := dn.toArray) a3 hq
        try dsimp only
        exact ret _ _ _ (keep_one hkt hg F9 N9 (by k_mem)) (.pre _ rfl (by unfold out1; rw [a4]; rfl))
  case turn =>
    intro Q fin i v' m₁ news₁ h6 tk6 own hv hadr hoff hJ F6 N6
    obtain ⟨dn, xs, ep', a1, rfl, a3, a4, a5, a6, a7, a8, a9⟩ := hJ
    have hi : i < vs.size := (Array.getElem?_eq_some_iff.mp hv).1
    have hz6 : dn.toArray.size ≤ sizeLine := by rw [List.size_toArray, sizeLine_eq]; omega
    rw [m_at a1, m_at a6, m_at a7, m_at a8, m_at a9] at F6
    obtain ⟨a, ch, rfl, hch, hKC⟩ := Refs.get hV (by simpa using hv)
    rw [drop_at hch] at a4
    have hz7 : dn.toArray.size ≤ 16000000 := by rw [List.size_toArray]; omega
    k_unmd; try k_fold
    k_steps
    · with_reducible rename Fr _ _ _ _ => F9
      with_reducible rename News _ _ _ _ => N9
      rw [fs_none hr5] at a4
      exact InvEndN.intro F9 N9 (.mk dn xs ep' rfl rfl a3 a4 (by omega) rfl rfl rfl rfl) rfl (fun p hp => List.mem_append_left _ hp) (fun p hp => List.mem_append_right _ hp)
    · with_reducible rename Fr _ _ _ _ => F9
      with_reducible rename News _ _ _ _ => N9
      rw [found_brk hr5] at a4
      exact fin _ _ _ _ (.mk dn xs ep' (.str c5 t5) (some c5) rfl rfl a3 a4 rfl rfl rfl rfl rfl) F9 (fun p hp => N9 p (List.mem_append_left _ hp))
    · rw [fs_maps hr5] at a4
      exact InvEndN.intro F8 N8 (.mk (dn ++ vs5.toList) (xs ++ x5 :: xs5) (ep' + 1) rfl rfl (Refs.append a3 hV5) a4 (by simp only [List.length_append, Array.length_toList]; omega) rfl rfl rfl rfl) rfl
        (fun p hp => .tail _ ((List.mem_cons.mp hp).elim (fun q => q ▸ .head _) (fun q => .tail _ (List.mem_append_left _ q)))) (fun p hp => .tail _ (.tail _ (List.mem_append_right _ hp)))
theorem news_pick {h₀ h : Heap} {L : Addr} {a b c d e f k : Addr × Obj} (N : News h₀ L h [a, b, c, d, e, f, k]) : News h₀ L h [b, a, c, k] := fun p hp => by
  simp only [List.mem_cons, List.not_mem_nil, or_false] at hp
  rcases hp with rfl | rfl | rfl | rfl <;> exact N _ (by simp)

theorem refs_two2 {α : Type} {w : World} {RR : Heap → Addr → α → Prop} {h : Heap} : ∀ {vs : List Value} {chs : List (Ch α)}, Refs (OC w RR) h vs chs → ∀ ch ∈ chs, ch.length ≤ 2
  | [], [], _, _, m => nomatch m
  | _ :: _, _ :: _, ⟨⟨_, _, r⟩, t⟩, ch, m => by
    rcases List.mem_cons.mp m with rfl | m
    · exact OC.len r
    · exact refs_two2 t ch m
theorem next_size2 {α : Type} {w : World} {RR : Heap → Addr → α → Prop} {h : Heap} {vs us : Array Value} {chs : List (Ch (Ch α))} {xs : List (Ch α)} {e : Ky} {td : Bool} (hV : Refs (OC w (OC w RR)) h vs.toList chs) (hz : vs.size ≤ 100)
    (hr : foundOf e td chs [] = .maps xs) (hU : Refs (OC w RR) h us.toList xs) : us.size ≤ 1000 := by
  have h1 := found_len (refs_two2 hV) hr
  have h2 := hV.length
  have h3 := hU.length
  rw [Array.length_toList] at h2 h3
  simp only [List.length_nil] at h1
  omega

theorem law_found2_code {α : Type} {RR : Heap → Addr → α → Prop} {w : World} {A : Around} {s : Shared} {R : Result → Shared → Prop} {l kt : Addr} {vs : Array Value} {ep n : Nat} {chs : List (Ch (Ch α))} {e e2 : Ky} {v v2 : Value} {td : Bool}
    (C : Rdy w A 7 s.heap [(kt, tupOf #[v, v2] n)]) (hD : Dic w RR) {g₀ : Heap} (hg₀ : Keep [] g₀ s.heap) (hkn : g₀.get? kt = none) (hl : s.heap.get? l = some (PySem.W.listOf vs ep)) (hV : Refs (OC w (OC w RR)) g₀ vs.toList chs) (hz100 : vs.size ≤ 100) (he : kyIs e v = true) (he2 : kyIs e2 v2 = true)
    (ret : ∀ (h' : Heap) (tk' : Nat) v, Keep [] s.heap h' → FK s.heap h' v (out2 chs e e2 td) → R (.ok (.ret v)) { s with heap := h', toks := tk' }) :
    codeAny (model RP w) A (.call (.ref 271) ⟨[.ref l, .ref kt, .bool td], []⟩) R s := by
  refine' enter (n := 6) (fun p => defAt p 37) (binds := [(PySem.Str.ofString "owns", .ref l), (PySem.Str.ofString "events", .ref kt), (PySem.Str.ofString "has_default", .bool td)]) (PySem.Str.ofString "_law_found") C ?ho ?h1 ?h2 ?hq ?hcd ?hbind ?hloc ?hco ?hgen ?hk ?hcell ?_
  k_extra "my_enter"
  intro A₁ g L' h₁ tk mean mg mb hg Rd F N X T
  have hz : vs.size ≤ 1000 := by omega
  have hkt := C.at (.head _)
  have hz1 : vs.size ≤ sizeLine := by rw [sizeLine_eq]; omega
  have hl₁ := hide_at hl (cls_ne hl hkt lt_ne) hg
  replace hg₀ := keep_hide hg₀ hkn hg
  clear C
  obtain ⟨ah, dp, ev, gd, un⟩ := A₁
  obtain rfl : ah = none := (Rd _ _ _ F N).handled
  k_steps
  refine Stop.go ?_
  k_rangeUnr
  k_steps
  refine For_invV g rfl rfl ?_ (by intro _; with_unfolding_all rfl)
  k_steps
  with_reducible rename Fr _ _ _ _ => F2
  with_reducible rename News _ _ _ _ => N2
  have N3 := news_swap N2
  refine Stop.go (loop_fnd (RR := OC w RR) (g₀ := g₀) (kt := kt) (td := td) (e := e) (chs := chs) (Rd _ _ _ F2 N2).handled (F2.keep _ _ hl₁) (old_ne F2 hl₁) (new_ne N3 hl₁) F2 N3 (.mk [] [] 0 rfl rfl trivial rfl (Nat.zero_le _) rfl rfl rfl rfl) (by rw [← hV.length, Array.length_toList]) ?fin ?turn)
  case fin =>
    rintro m₁ news₁ h6 tk6 ⟨dn, xs, ep', pv, oo, a1, rfl, a3, a4, a5, a6, a7, a8, a9⟩ F6 N6
    rw [m_at a1, m_at a6, m_at a7, m_at a8, m_at a9] at F6
    induction a5 using VD.ind with
    | none =>
      k_steps
      all_goals
        with_reducible rename Fr _ _ _ _ => F9
        with_reducible rename News _ _ _ _ => N9
      · rename (_ == 0) = true => hq
        obtain rfl := refs_none (vs := dn.toArray) a3 hq
        exact ret _ _ _ (keep_one hkt hg F9 N9 (by k_mem)) (.none rfl (by unfold out2; rw [a4]; rfl))
      · rename (_ == 0) = false => hq
        obtain ⟨x, r, rfl⟩ := refs_some (vs := dn.toArray) a3 hq
        have e1 : out2 chs e e2 td = out1 (x :: r) e2 td := by unfold out2; rw [a4]; rfl
        rw [e1] at ret
        have N3 := news_pick N9
        have hz2 : dn.toArray.size ≤ 1000 := next_size2 hV hz100 (by rw [a4]; rfl) a3
        refine Stop.go (loop_fnd (RR := RR) (g₀ := g₀) (kt := kt) (td := td) (e := e2) (chs := x :: r) (Rd _ _ _ F9 N9).handled (N9 _ (.tail _ (.tail _ (.tail _ (.tail _ (.head _)))))).1 (N9 _ (.tail _ (.tail _ (.tail _ (.tail _ (.head _)))))).2.1
          (by intro p hp; simp only [List.mem_cons, List.not_mem_nil, or_false] at hp; rcases hp with rfl | rfl | rfl | rfl <;> exact (by k_ne)) F9 N3 (.mk [] [] 0 rfl rfl trivial rfl (Nat.zero_le _) rfl rfl rfl rfl) (by rw [← a3.length, List.size_toArray]) ?fin2 ?turn2)
        case fin2 =>
          rintro m₁ news₁ h6 tk6 ⟨dn, xs, ep', pv, oo, a1, rfl, a3, a4, a5, a6, a7, a8, a9⟩ F6 N6
          rw [m_at a1, m_at a6, m_at a7, m_at a8, m_at a9] at F6
          induction a5 using VD.ind with
          | none =>
            k_steps
            all_goals
              with_reducible rename Fr _ _ _ _ => F9
              with_reducible rename News _ _ _ _ => N9
            · rename (_ == 0) = true => hq
              obtain rfl := refs_none (vs := dn.toArray) a3 hq
              exact ret _ _ _ (keep_one hkt hg F9 N9 (by k_mem)) (.none rfl (by unfold out1; rw [a4]; rfl))
            · rename (_ == 0) = false => hq
              obtain ⟨x, r, rfl⟩ := refs_some (vs := dn.toArray) a3 hq
              try dsimp only
              exact ret _ _ _ (keep_one hkt hg F9 N9 (by k_mem)) (.pre _ rfl (by unfold out1; rw [a4]; rfl))
          | str c t =>
            k_steps
            all_goals
              with_reducible rename Fr _ _ _ _ => F9
              with_reducible rename News _ _ _ _ => N9
            · rename (_ == 0) = true => hq
              obtain rfl := refs_none (vs := dn.toArray) a3 hq
              exact ret _ _ _ (keep_one hkt hg F9 N9 (by k_mem)) (.cmd _ _ _ _ rfl (by unfold out1; rw [a4]; rfl) (N9 _ (.head _)).1 (fresh_one hg N9 (.head _) ((by k_ne))))
            · rename (_ == 0) = false => hq
              obtain ⟨x, r, rfl⟩ := refs_some (vs := dn.toArray) a3 hq
              try dsimp only
              exact ret _ _ _ (keep_one hkt hg F9 N9 (by k_mem)) (.pre _ rfl (by unfold out1; rw [a4]; rfl))
        case turn2 =>
          have hV2 : Refs (OC w RR) g₀ dn (x :: r) := a3
          have hi2 : dn.length ≤ 1000 := by rw [List.size_toArray] at hz2; exact hz2
          clear a4 e1
          intro Q fin i v' m₁ news₁ h6 tk6 own hv hadr hoff hJ F6 N6
          obtain ⟨dn2, xs, ep', a1, rfl, a3, a4, a5, a6, a7, a8, a9⟩ := hJ
          have hi : i < dn.toArray.size := (Array.getElem?_eq_some_iff.mp hv).1
          have hz6 : dn2.toArray.size ≤ sizeLine := by rw [List.size_toArray, sizeLine_eq]; omega
          rw [m_at a1, m_at a6, m_at a7, m_at a8, m_at a9] at F6
          obtain ⟨a, ch, rfl, hch, hKC⟩ := Refs.get hV2 (by simpa using hv)
          rw [drop_at hch] at a4
          have hz7 : dn2.toArray.size ≤ 16000000 := by rw [List.size_toArray]; omega
          k_unmd; try k_fold
          k_steps
          · with_reducible rename Fr _ _ _ _ => F9
            with_reducible rename News _ _ _ _ => N9
            rw [fs_none hr5] at a4
            exact InvEndN.intro F9 N9 (.mk dn2 xs ep' rfl rfl a3 a4 (by omega) rfl rfl rfl rfl) rfl (fun p hp => List.mem_append_left _ hp) (fun p hp => List.mem_append_right _ hp)
          · with_reducible rename Fr _ _ _ _ => F9
            with_reducible rename News _ _ _ _ => N9
            rw [found_brk hr5] at a4
            exact fin _ _ _ _ (.mk dn2 xs ep' (.str c5 t5) (some c5) rfl rfl a3 a4 rfl rfl rfl rfl rfl) F9 (fun p hp => N9 p (List.mem_append_left _ hp))
          · rw [fs_maps hr5] at a4
            exact InvEndN.intro F8 N8 (.mk (dn2 ++ vs5.toList) (xs ++ x5 :: xs5) (ep' + 1) rfl rfl (Refs.append a3 hV5) a4 (by simp only [List.length_append, Array.length_toList]; omega) rfl rfl rfl rfl) rfl
              (fun p hp => .tail _ ((List.mem_cons.mp hp).elim (fun q => q ▸ .head _) (fun q => .tail _ (List.mem_append_left _ q)))) (fun p hp => .tail _ (.tail _ (List.mem_append_right _ hp)))
    | str c t =>
      k_steps
      all_goals
        with_reducible rename Fr _ _ _ _ => F9
        with_reducible rename News _ _ _ _ => N9
      · rename (_ == 0) = true => hq
        obtain rfl := refs_none (vs := dn.toArray) a3 hq
        exact ret _ _ _ (keep_one hkt hg F9 N9 (by k_mem)) (.none rfl (by unfold out2; rw [a4]; rfl))
      · rename (_ == 0) = false => hq
        obtain ⟨x, r, rfl⟩ := refs_some (vs := dn.toArray) a3 hq
        have e1 : out2 chs e e2 td = out1 (x :: r) e2 td := by unfold out2; rw [a4]; rfl
        rw [e1] at ret
        have N3 := news_pick N9
        have hz2 : dn.toArray.size ≤ 1000 := next_size2 hV hz100 (by rw [a4]; rfl) a3
        refine Stop.go (loop_fnd (RR := RR) (g₀ := g₀) (kt := kt) (td := td) (e := e2) (chs := x :: r) (Rd _ _ _ F9 N9).handled (N9 _ (.tail _ (.tail _ (.tail _ (.tail _ (.head _)))))).1 (N9 _ (.tail _ (.tail _ (.tail _ (.tail _ (.head _)))))).2.1
          (by intro p hp; simp only [List.mem_cons, List.not_mem_nil, or_false] at hp; rcases hp with rfl | rfl | rfl | rfl <;> exact (by k_ne)) F9 N3 (.mk [] [] 0 rfl rfl trivial rfl (Nat.zero_le _) rfl rfl rfl rfl) (by rw [← a3.length, List.size_toArray]) ?fin2 ?turn2)
        case fin2 =>
          rintro m₁ news₁ h6 tk6 ⟨dn, xs, ep', pv, oo, a1, rfl, a3, a4, a5, a6, a7, a8, a9⟩ F6 N6
          rw [m_at a1, m_at a6, m_at a7, m_at a8, m_at a9] at F6
          induction a5 using VD.ind with
          | none =>
            k_steps
            all_goals
              with_reducible rename Fr _ _ _ _ => F9
              with_reducible rename News _ _ _ _ => N9
            · rename (_ == 0) = true => hq
              obtain rfl := refs_none (vs := dn.toArray) a3 hq
              exact ret _ _ _ (keep_one hkt hg F9 N9 (by k_mem)) (.none rfl (by unfold out1; rw [a4]; rfl))
            · rename (_ == 0) = false => hq
              obtain ⟨x, r, rfl⟩ := refs_some (vs := dn.toArray) a3 hq
              try dsimp only
              exact ret _ _ _ (keep_one hkt hg F9 N9 (by k_mem)) (.pre _ rfl (by unfold out1; rw [a4]; rfl))
          | str c t =>
            k_steps
            all_goals
              with_reducible rename Fr _ _ _ _ => F9
              with_reducible rename News _ _ _ _ => N9
            · rename (_ == 0) = true => hq
              obtain rfl := refs_none (vs := dn.toArray) a3 hq
              exact ret _ _ _ (keep_one hkt hg F9 N9 (by k_mem)) (.cmd _ _ _ _ rfl (by unfold out1; rw [a4]; rfl) (N9 _ (.head _)).1 (fresh_one hg N9 (.head _) ((by k_ne))))
            · rename (_ == 0) = false => hq
              obtain ⟨x, r, rfl⟩ := refs_some (vs := dn.toArray) a3 hq
              try dsimp only
              exact ret _ _ _ (keep_one hkt hg F9 N9 (by k_mem)) (.pre _ rfl (by unfold out1; rw [a4]; rfl))
        case turn2 =>
          have hV2 : Refs (OC w RR) g₀ dn (x :: r) := a3
          have hi2 : dn.length ≤ 1000 := by rw [List.size_toArray] at hz2; exact hz2
          clear a4 e1
          intro Q fin i v' m₁ news₁ h6 tk6 own hv hadr hoff hJ F6 N6
          obtain ⟨dn2, xs, ep', a1, rfl, a3, a4, a5, a6, a7, a8, a9⟩ := hJ
          have hi : i < dn.toArray.size := (Array.getElem?_eq_some_iff.mp hv).1
          have hz6 : dn2.toArray.size ≤ sizeLine := by rw [List.size_toArray, sizeLine_eq]; omega
          rw [m_at a1, m_at a6, m_at a7, m_at a8, m_at a9] at F6
          obtain ⟨a, ch, rfl, hch, hKC⟩ := Refs.get hV2 (by simpa using hv)
          rw [drop_at hch] at a4
          have hz7 : dn2.toArray.size ≤ 16000000 := by rw [List.size_toArray]; omega
          k_unmd; try k_fold
          k_steps
          · with_reducible rename Fr _ _ _ _ => F9
            with_reducible rename News _ _ _ _ => N9
            rw [fs_none hr5] at a4
            exact InvEndN.intro F9 N9 (.mk dn2 xs ep' rfl rfl a3 a4 (by omega) rfl rfl rfl rfl) rfl (fun p hp => List.mem_append_left _ hp) (fun p hp => List.mem_append_right _ hp)
          · with_reducible rename Fr _ _ _ _ => F9
            with_reducible rename News _ _ _ _ => N9
            rw [found_brk hr5] at a4
            exact fin _ _ _ _ (.mk dn2 xs ep' (.str c5 t5) (some c5) rfl rfl a3 a4 rfl rfl rfl rfl rfl) F9 (fun p hp => N9 p (List.mem_append_left _ hp))
          · rw [fs_maps hr5] at a4
            exact InvEndN.intro F8 N8 (.mk (dn2 ++ vs5.toList) (xs ++ x5 :: xs5) (ep' + 1) rfl rfl (Refs.append a3 hV5) a4 (by simp only [List.length_append, Array.length_toList]; omega) rfl rfl rfl rfl) rfl
              (fun p hp => .tail _ ((List.mem_cons.mp hp).elim (fun q => q ▸ .head _) (fun q => .tail _ (List.mem_append_left _ q)))) (fun p hp => .tail _ (.tail _ (List.mem_append_right _ hp)))
  case turn =>
    intro Q fin i v' m₁ news₁ h6 tk6 own hv hadr hoff hJ F6 N6
    obtain ⟨dn, xs, ep', a1, rfl, a3, a4, a5, a6, a7, a8, a9⟩ := hJ
    have hi : i < vs.size := (Array.getElem?_eq_some_iff.mp hv).1
    have hz6 : dn.toArray.size ≤ sizeLine := by rw [List.size_toArray, sizeLine_eq]; omega
    rw [m_at a1, m_at a6, m_at a7, m_at a8, m_at a9] at F6
    obtain ⟨a, ch, rfl, hch, hKC⟩ := Refs.get hV (by simpa using hv)
    rw [drop_at hch] at a4
    have hz7 : dn.toArray.size ≤ 16000000 := by rw [List.size_toArray]; omega
    k_unmd; try k_fold
    k_steps
    · with_reducible rename Fr _ _ _ _ => F9
      with_reducible rename News _ _ _ _ => N9
      rw [fs_none hr5] at a4
      exact InvEndN.intro F9 N9 (.mk dn xs ep' rfl rfl a3 a4 (by omega) rfl rfl rfl rfl) rfl (fun p hp => List.mem_append_left _ hp) (fun p hp => List.mem_append_right _ hp)
    · with_reducible rename Fr _ _ _ _ => F9
      with_reducible rename News _ _ _ _ => N9
      rw [found_brk hr5] at a4
      exact fin _ _ _ _ (.mk dn xs ep' (.str c5 t5) (some c5) rfl rfl a3 a4 rfl rfl rfl rfl rfl) F9 (fun p hp => N9 p (List.mem_append_left _ hp))
    · rw [fs_maps hr5] at a4
      exact InvEndN.intro F8 N8 (.mk (dn ++ vs5.toList) (xs ++ x5 :: xs5) (ep' + 1) rfl rfl (Refs.append a3 hV5) a4 (by simp only [List.length_append, Array.length_toList]; omega) rfl rfl rfl rfl) rfl
        (fun p hp => .tail _ ((List.mem_cons.mp hp).elim (fun q => q ▸ .head _) (fun q => .tail _ (List.mem_append_left _ q)))) (fun p hp => .tail _ (.tail _ (List.mem_append_right _ hp)))
theorem law_due1_code {w : World} {A : Around} {s : Shared} {R : Result → Shared → Prop} {l kt : Addr} {vs : Array Value} {ep n : Nat} {chs : List (Ch (Ch Empty))} {e : Ky} {v : Value}
    (C : Rdy w A 9 s.heap [(kt, tupOf #[v] n)]) {g₀ : Heap} (hg₀ : Keep [] g₀ s.heap) (hkn : g₀.get? kt = none) (hl : s.heap.get? l = some (PySem.W.listOf vs ep)) (hV : Refs (OC w (OC w RE)) g₀ vs.toList chs) (hz100 : vs.size ≤ 100) (he : kyIs e v = true)
    (ret : ∀ (h' : Heap) (tk' : Nat) v, Keep [] s.heap h' → DV v (dueOf chs (out1 chs e true)) → R (.ok (.ret v)) { s with heap := h', toks := tk' }) :
    codeAny (model RP w) A (.call (.ref 278) ⟨[.ref l, .ref kt], []⟩) R s := by
  refine' enter (n := 8) (fun p => defAt p 38) (binds := [(PySem.Str.ofString "owns", .ref l), (PySem.Str.ofString "events", .ref kt)]) (PySem.Str.ofString "_law_due") C ?ho ?h1 ?h2 ?hq ?hcd ?hbind ?hloc ?hco ?hgen ?hk ?hcell ?_
  k_extra "my_enter"
  intro A₁ g L' h₁ tk mean mg mb hg Rd F N X T
  have hz : vs.size ≤ 1000 := by omega
  have hkt := C.at (.head _)
  have hl₁ := hide_at hl (cls_ne hl hkt lt_ne) hg
  replace hg₀ := keep_hide hg₀ hkn hg
  clear C
  obtain ⟨ah, dp, ev, gd, un⟩ := A₁
  obtain rfl : ah = none := (Rd _ _ _ F N).handled
  k_steps
  with_reducible rename Fr _ _ _ _ => F9
  refine wpAny_call ?_
  refine law_found1_code (Rdy.le (Rd _ _ _ F9 N) (by decide)) OC.dic (g₀ := g₀) (Keep.of_all (fun b o e => F9.keep b o (hg₀.all b o e))) hkn (F9.keep _ _ hl₁) hV hz he ?_
  intro h5 tk5 v5 kp5 hR5
  have F5 := Keep.fr kp5 F9
  have N4 := Keep.news kp5 N
  rcases hR5 with ⟨rfl, q2⟩ | ⟨t5, rfl, q2⟩ | ⟨t5, tc, c, n5, rfl, q2, h1, h2⟩
  · rw [q2] at ret
    try dsimp only
    k_steps
    with_reducible rename Fr _ _ _ _ => F8
    with_reducible rename News _ _ _ _ => N8
    exact ret _ _ _ (keep_one hkt hg F8 N8 (by k_mem)) trivial
  · rw [q2] at ret
    try dsimp only
    k_steps
    with_reducible rename Fr _ _ _ _ => F8
    with_reducible rename News _ _ _ _ => N8
    exact ret _ _ _ (keep_one hkt hg F8 N8 (by k_mem)) rfl
  · rw [q2] at ret
    have N5 := Keep.add kp5 F9 N h1 h2
    try dsimp only
    k_steps
    with_reducible rename Fr _ _ _ _ => F8
    with_reducible rename News _ _ _ _ => N8
    refine SeqAt.RcAt.tuple_str _ _ ⟨_, (N8 _ (.head _)).1, rfl, _, rfl⟩ (Rd _ _ _ F8 .nil).units RP w _ _ ?_
    k_steps
    with_reducible rename Fr _ _ _ _ => F7
    with_reducible rename News _ _ _ _ => N7
    refine wpAny_call ?_
    refine law_found2_code (Rdy.le (Rd _ _ _ F7 (News.only N7 (.head _))) (by decide)) RE.dic (g₀ := g₀) (Keep.of_all (fun b o e => F7.keep b o (hg₀.all b o e))) (none_before hg₀ (N7 _ (.head _)).2.2) (F7.keep _ _ hl₁) hV hz100 (e := .inr _) (kyIs_str _ _) (e2 := .inr _) (kyIs_str _ _) ?_
    intro h6 tk6 v6 kp6 hR6
    have F6 := Keep.fr kp6 F7
    have rm : remOf chs c = match out2 chs (.inr (PySem.Str.ofString "remap")) (.inr c) false with | .cmd c' => c' | _ => c := rfl
    rcases hR6 with ⟨rfl, q3⟩ | ⟨t6, rfl, q3⟩ | ⟨t6, tc6, c6, n6, rfl, q3, h3, h4⟩
    · rw [q3] at rm
      have N6 := Keep.news kp6 N7
      try dsimp only
      k_steps
      with_reducible rename Fr _ _ _ _ => F5
      with_reducible rename News _ _ _ _ => N5
      exact ret _ _ _ (keep_one hkt hg F5 N5 (by k_mem)) (Eq.symm rm)
    · rw [q3] at rm
      have N6 := Keep.news kp6 N7
      try dsimp only
      k_steps
      with_reducible rename Fr _ _ _ _ => F5
      with_reducible rename News _ _ _ _ => N5
      exact ret _ _ _ (keep_one hkt hg F5 N5 (by k_mem)) (Eq.symm rm)
    · rw [q3] at rm
      have N6 := Keep.add kp6 F7 N7 h3 h4
      try dsimp only
      k_steps
      with_reducible rename Fr _ _ _ _ => F5
      with_reducible rename News _ _ _ _ => N5
      exact ret _ _ _ (keep_one hkt hg F5 N5 (by k_mem)) (Eq.symm rm)

theorem law_due2_code {w : World} {A : Around} {s : Shared} {R : Result → Shared → Prop} {l kt : Addr} {vs : Array Value} {ep n : Nat} {chs : List (Ch (Ch Empty))} {e e2 : Ky} {v v2 : Value}
    (C : Rdy w A 9 s.heap [(kt, tupOf #[v, v2] n)]) {g₀ : Heap} (hg₀ : Keep [] g₀ s.heap) (hkn : g₀.get? kt = none) (hl : s.heap.get? l = some (PySem.W.listOf vs ep)) (hV : Refs (OC w (OC w RE)) g₀ vs.toList chs) (hz100 : vs.size ≤ 100) (he : kyIs e v = true) (he2 : kyIs e2 v2 = true)
    (ret : ∀ (h' : Heap) (tk' : Nat) v, Keep [] s.heap h' → DV v (dueOf chs (out2 chs e e2 true)) → R (.ok (.ret v)) { s with heap := h', toks := tk' }) :
    codeAny (model RP w) A (.call (.ref 278) ⟨[.ref l, .ref kt], []⟩) R s := by
  refine' enter (n := 8) (fun p => defAt p 38) (binds := [(PySem.Str.ofString "owns", .ref l), (PySem.Str.ofString "events", .ref kt)]) (PySem.Str.ofString "_law_due") C ?ho ?h1 ?h2 ?hq ?hcd ?hbind ?hloc ?hco ?hgen ?hk ?hcell ?_
  k_extra "my_enter"
  intro A₁ g L' h₁ tk mean mg mb hg Rd F N X T
  have hz : vs.size ≤ 1000 := by omega
  have hkt := C.at (.head _)
  have hl₁ := hide_at hl (cls_ne hl hkt lt_ne) hg
  replace hg₀ := keep_hide hg₀ hkn hg
  clear C
  obtain ⟨ah, dp, ev, gd, un⟩ := A₁
  obtain rfl : ah = none := (Rd _ _ _ F N).handled
  k_steps
  with_reducible rename Fr _ _ _ _ => F9
  refine wpAny_call ?_
  refine law_found2_code (Rdy.le (Rd _ _ _ F9 N) (by decide)) RE.dic (g₀ := g₀) (Keep.of_all (fun b o e => F9.keep b o (hg₀.all b o e))) hkn (F9.keep _ _ hl₁) hV hz100 he he2 ?_
  intro h5 tk5 v5 kp5 hR5
  have F5 := Keep.fr kp5 F9
  have N4 := Keep.news kp5 N
  rcases hR5 with ⟨rfl, q2⟩ | ⟨t5, rfl, q2⟩ | ⟨t5, tc, c, n5, rfl, q2, h1, h2⟩
  · rw [q2] at ret
    try dsimp only
    k_steps
    with_reducible rename Fr _ _ _ _ => F8
    with_reducible rename News _ _ _ _ => N8
    exact ret _ _ _ (keep_one hkt hg F8 N8 (by k_mem)) trivial
  · rw [q2] at ret
    try dsimp only
    k_steps
    with_reducible rename Fr _ _ _ _ => F8
    with_reducible rename News _ _ _ _ => N8
    exact ret _ _ _ (keep_one hkt hg F8 N8 (by k_mem)) rfl
  · rw [q2] at ret
    have N5 := Keep.add kp5 F9 N h1 h2
    try dsimp only
    k_steps
    with_reducible rename Fr _ _ _ _ => F8
    with_reducible rename News _ _ _ _ => N8
    refine SeqAt.RcAt.tuple_str _ _ ⟨_, (N8 _ (.head _)).1, rfl, _, rfl⟩ (Rd _ _ _ F8 .nil).units RP w _ _ ?_
    k_steps
    with_reducible rename Fr _ _ _ _ => F7
    with_reducible rename News _ _ _ _ => N7
    refine wpAny_call ?_
    refine law_found2_code (Rdy.le (Rd _ _ _ F7 (News.only N7 (.head _))) (by decide)) RE.dic (g₀ := g₀) (Keep.of_all (fun b o e => F7.keep b o (hg₀.all b o e))) (none_before hg₀ (N7 _ (.head _)).2.2) (F7.keep _ _ hl₁) hV hz100 (e := .inr _) (kyIs_str _ _) (e2 := .inr _) (kyIs_str _ _) ?_
    intro h6 tk6 v6 kp6 hR6
    have F6 := Keep.fr kp6 F7
    have rm : remOf chs c = match out2 chs (.inr (PySem.Str.ofString "remap")) (.inr c) false with | .cmd c' => c' | _ => c := rfl
    rcases hR6 with ⟨rfl, q3⟩ | ⟨t6, rfl, q3⟩ | ⟨t6, tc6, c6, n6, rfl, q3, h3, h4⟩
    · rw [q3] at rm
      have N6 := Keep.news kp6 N7
      try dsimp only
      k_steps
      with_reducible rename Fr _ _ _ _ => F5
      with_reducible rename News _ _ _ _ => N5
      exact ret _ _ _ (keep_one hkt hg F5 N5 (by k_mem)) (Eq.symm rm)
    · rw [q3] at rm
      have N6 := Keep.news kp6 N7
      try dsimp only
      k_steps
      with_reducible rename Fr _ _ _ _ => F5
      with_reducible rename News _ _ _ _ => N5
      exact ret _ _ _ (keep_one hkt hg F5 N5 (by k_mem)) (Eq.symm rm)
    · rw [q3] at rm
      have N6 := Keep.add kp6 F7 N7 h3 h4
      try dsimp only
      k_steps
      with_reducible rename Fr _ _ _ _ => F5
      with_reducible rename News _ _ _ _ => N5
      exact ret _ _ _ (keep_one hkt hg F5 N5 (by k_mem)) (Eq.symm rm)
theorem draw_code {w : World} {A : Around} {s : Shared} {R : Result → Shared → Prop} {deck l0 e : Nat} {n many : Int} {t tm : Tok} {vs : List Value} {ns : List Int}
    (C : Rdy w A 3 s.heap [(deck, PySem.W.listOf #[.ref l0, .int n t] e)]) (hl : s.heap.IsList l0 vs.toArray) (hi : IntsAre vs ns) (hlen : ns.length ≤ 63) (hn0 : 0 ≤ n) (hn1 : n ≤ 1000)
    (hm1 : 1 ≤ many) (hm8 : many ≤ 8) (hne : l0 ≠ deck)
    (ret : ∀ (v : Int) (tv t' : Tok) (e' : Nat) (h' : Heap) (tk' : Nat), 0 ≤ v → v < many → Keep [deck] s.heap h' → h'.get? deck = some (PySem.W.listOf #[.ref l0, .int (n + 1) t'] e') → R (.ok (.ret (.int v tv))) { s with heap := h', toks := tk' }) :
    codeAny (model RP w) A (.call (.ref 245) ⟨[.ref deck, .int many tm], []⟩) R s := by
  refine' enter (n := 2) (fun p => defAt p 33) (binds := [(PySem.Str.ofString "deck", .ref deck), (PySem.Str.ofString "many", .int many tm)]) (PySem.Str.ofString "_law_draw") C ?ho ?h1 ?h2 ?hq ?hcd ?hbind ?hloc ?hco ?hgen ?hk ?hcell ?_
  k_extra "my_enter"
  intro A₁ g L' h₁ tk mean mg mb hg Rd F N X T
  have hlg : g.IsList l0 vs.toArray := by
    obtain ⟨o, ho, r⟩ := hl
    exact ⟨o, by rw [hg]; exact hideAll_get _ ho (by simpa using hne), r⟩
  clear C

  k_steps
  all_goals try dsimp only
  all_goals (
    with_reducible rename Fr _ _ _ _ => F9
    with_reducible rename News _ _ _ _ => N9
    exact ret _ _ _ _ _ _ (Int.fmod_nonneg_of_pos _ (by omega)) (Int.fmod_lt_of_pos _ (by omega)) (keep_of_fr hg F9) (N9 _ (List.Mem.head _)).1)
/-- one object was changed -/
theorem keep_put {h₀ h h' : Heap} {L a : Addr} {m : Str → Option Value} {o o' : Obj} {news : List (Addr × Obj)} {u : Obj → List (Addr × Obj)} (F : Fr h₀ L h m) (N : News h₀ L h news) (U : UpdF a o news u) (k : Keep [a] h h') (e : h'.get? a = some o') :
    Fr h₀ L h' m ∧ News h₀ L h' (u o') := by
  obtain ⟨pre, post, rfl, hg, h1, h2⟩ := U.split
  have hm := N (a, o) (List.mem_append_right _ (.head _))
  refine ⟨fr_but (wr := [a]) F k (fun b hb => by rw [List.mem_singleton.mp hb]; exact hm.2.2) (fun hb => hm.2.1 (List.mem_singleton.mp hb).symm), ?_⟩
  rw [hg]
  intro p hp
  have st : p ∈ pre ++ (a, o) :: post → p.1 ≠ a → h'.get? p.1 = some p.2 ∧ p.1 ≠ L ∧ h₀.get? p.1 = none := fun hq hne => ⟨k _ _ (fun q => hne (List.mem_singleton.mp q)) (N p hq).1, (N p hq).2⟩
  rcases List.mem_append.mp hp with hp | hp
  · exact st (List.mem_append_left _ hp) (h1 p hp)
  · rcases List.mem_cons.mp hp with rfl | hp
    · exact ⟨e, hm.2⟩
    · exact st (List.mem_append_right _ (.tail _ hp)) (h2 p hp)
/-- some objects went on top of the ledger -/
theorem News.new {h₀ h h' : Heap} {L : Addr} {m : Str → Option Value} {news nw : List (Addr × Obj)} (F : Fr h₀ L h m) (N : News h₀ L h' news) (hn : ∀ p ∈ nw, h'.get? p.1 = some p.2 ∧ h.get? p.1 = none) : News h₀ L h' (nw ++ news) := by
  intro p hp
  rcases List.mem_append.mp hp with hp | hp
  · refine ⟨(hn p hp).1, ?_, ?_⟩
    · intro q
      obtain ⟨oL, _, _, hL, _⟩ := F.ns
      have := (hn p hp).2
      rw [q, hL] at this; cases this
    · cases q : h₀.get? p.1 with
      | none => rfl
      | some o' => have := F.keep _ _ q; rw [(hn p hp).2] at this; cases this
  · exact N p hp

/-- what holds wherever the listed objects stand -/
noncomputable def Told (own : List (Addr × Obj)) (P : Heap → Prop) : Prop := ∀ h : Heap, (∀ p ∈ own, h.get? p.1 = some p.2) → P h
theorem Told.weak {own own' : List (Addr × Obj)} {P : Heap → Prop} (t : Told own P) (h : ∀ p ∈ own, p ∈ own') : Told own' P := fun g k => t g fun p hp => k p (h p hp)
theorem Told.map {own : List (Addr × Obj)} {P P' : Heap → Prop} (t : Told own P) (h : ∀ g, P g → P' g) : Told own P' := fun g k => h g (t g k)
theorem Told.and {own : List (Addr × Obj)} {P P' : Heap → Prop} (t : Told own P) (t' : Told own P') : Told own fun g => P g ∧ P' g := fun g k => ⟨t g k, t' g k⟩
theorem Told.at {own news : List (Addr × Obj)} {P : Heap → Prop} (t : Told own P) {h₀ h : Heap} {L : Addr} (N : News h₀ L h news) (hs : ∀ p ∈ own, p ∈ news) : P h := t h fun p hp => (N p (hs p hp)).1
theorem Told.here {own : List (Addr × Obj)} {P : Heap → Prop} (t : Told own P) {h : Heap} (hs : ∀ p ∈ own, h.get? p.1 = some p.2) : P h := t h hs

theorem OwnOff.app {a b : List (Addr × Obj)} {adr : List Addr} (h1 : OwnOff a adr) (h2 : OwnOff b adr) : OwnOff (a ++ b) adr := fun p hp => (List.mem_append.mp hp).elim (h1 p) (h2 p)
/-- what is new is off what stands -/
theorem OwnOff.new {h : Heap} {nw : List (Addr × Obj)} {adr : List Addr} (hn : ∀ p ∈ nw, h.get? p.1 = none) (ha : ∀ b ∈ adr, ∃ o, h.get? b = some o) : OwnOff nw adr := fun p hp b hb q => by
  obtain ⟨o, e⟩ := ha b hb
  rw [← q, hn p hp] at e; cases e
theorem OwnOff.fresh {h : Heap} {own : List (Addr × Obj)} {a : Addr} {adr : List Addr} (hs : ∀ p ∈ own, h.get? p.1 = some p.2) (ha : h.get? a = none) (O : OwnOff own adr) : OwnOff own (a :: adr) := fun p hp b hb q => by
  rcases List.mem_cons.mp hb with rfl | hb
  · have := hs p hp
    rw [q, ha] at this; cases this
  · exact O p hp b hb q

theorem isdict_nil {w : World} {o : Obj} (h : o.IsDictOf (strKind RP w) []) : o.IsDictOf (mix RP w) [] := by
  obtain ⟨es, ep, hx, hd, hk, hp, hn⟩ := h
  have e : es = #[] := by
    obtain ⟨l⟩ := es
    cases l with
    | nil => rfl
    | cons x r => nomatch hp
  subst e
  exact ⟨#[], ep, hx, hd, (fun x hx => by simp at hx), .nil, List.nodup_nil⟩

/-- a turn's end: it fell through, and what holds between the turns holds of the new ledger; its: what the loop itself needs -/
noncomputable def TupEnd (h₀ : Heap) (L : Addr) (J : (Str → Option Value) → List (Addr × Obj) → Prop) (its : List (Addr × Obj)) (I : Addr) (s : Shared) (f : Flow) (s₂ : Shared) : Prop :=
  f = .next ∧ ∃ h' tk' m' news', s₂ = { s with heap := h', toks := tk' } ∧ Fr h₀ L h' m' ∧ News h₀ L h' (its ++ news') ∧ (∀ p ∈ news', p.1 ≠ I) ∧ J m' news'
theorem TupEnd.mk {h₀ : Heap} {L : Addr} {J : (Str → Option Value) → List (Addr × Obj) → Prop} {its : List (Addr × Obj)} {I : Addr} {s : Shared} {h' : Heap} {tk' : Nat} {m' : Str → Option Value} {news news' : List (Addr × Obj)}
    (F : Fr h₀ L h' m') (N : News h₀ L h' news) (hs : ∀ p ∈ its ++ news', p ∈ news) (hi : ∀ p ∈ news', p.1 ≠ I) (j : J m' news') : TupEnd h₀ L J its I s .next { s with heap := h', toks := tk' } := ⟨rfl, h', tk', m', news', rfl, F, fun p hp => N p (hs p hp), hi, j⟩

/-- a for over a tuple of the ledger, by what holds between its turns of the names and the ledger (which may grow) -/
theorem loop_tup {w : World} {A : Around} {E : Value → Shared → Prop} {s : Shared} {env : Env} {h₀ : Heap} {x : Str} {body : List Stmt} {Q : Flow → Shared → Prop} {t : Addr} {ot : Obj} {items : Array Value} {k : Nat} {m₀ : Str → Option Value} {news0 news : List (Addr × Obj)}
    (J : Nat → (Str → Option Value) → List (Addr × Obj) → Prop) (hh : A.handled = none) (F : Fr h₀ env.locals s.heap m₀) (N : News h₀ env.locals s.heap news0) (ht : (t, ot) ∈ news0) (hc : ot.cls = .type "tuple") (hd : ot.data = .seq items k)
    (hs : ∀ p ∈ news, p ∈ news0) (hj : J 0 m₀ news)
    (turn : ∀ i v m₁ news₁ h tk it ot', items[i]? = some v → J i m₁ news₁ → (∀ p ∈ news₁, p.1 ≠ it.1) → Fr h₀ env.locals h (fun y => if y = x then some v else m₁ y) → News h₀ env.locals h (it :: (t, ot') :: news₁) →
      wpAny (model RP w) A (execs body env) (TupEnd h₀ env.locals (J (i + 1)) [it, (t, ot')] it.1 s) E { s with heap := h, toks := tk })
    (done : ∀ m₁ news₁ h tk, J items.size m₁ news₁ → Fr h₀ env.locals h m₁ → News h₀ env.locals h news₁ → Q .next { s with heap := h, toks := tk }) :
    wpAny (model RP w) A (pyIter (.ref t)) (fun it s₂ => LoopAtV RP w A h₀ env x body Q E it s₂) E s := by
  have hot := (N _ ht).1
  have htL : t ≠ env.locals := (N _ ht).2.1
  have hts : s.heap.IsTuple t items := ⟨ot, hot, hc, k, hd⟩
  have hlt := nlt hot
  have hne : t ≠ s.heap.objs.size := Nat.ne_of_lt hlt
  refine wpAny_pyIter_tuple hts ?_
  refine ⟨_, _, _, items.size, _, _, m₀, news, J, rfl, Walks.tuple (prog := RP) (w := w) hh s.heap.objs.size t hne items, ?_, ?_, ?_, ⟨⟨_, Heap.get?_push_size _ rfl, rfl, rfl⟩, hts.at fun o e => Heap.get?_push_of_some _ e⟩, F.push _, (fun p hp => ⟨Heap.get?_push_of_some _ (N p (hs p hp)).1, (N p (hs p hp)).2⟩), hj, ?_, ?_⟩
  · intro hm
    rcases List.mem_cons.mp hm with e | hm
    · exact absurd F.ns.lt (e ▸ Nat.lt_irrefl _)
    · exact htL (List.mem_singleton.mp hm).symm
  · intro b hb
    rw [List.mem_singleton.mp hb]
    exact next_is_new F
  · intro p hp hI
    exact absurd (Heap.lt_size (N p (hs p hp)).1) ((List.mem_singleton.mp hI) ▸ Nat.lt_irrefl _)
  · rintro i v m₁ news₁ s₁ own ⟨hh', tk', rfl⟩ hin hP hJ hoff hown howng hownall hst F₁ N₁
    obtain ⟨⟨oI, hoI, _⟩, ⟨ot2, hot2, _⟩⟩ := hst
    have hmI : (s.heap.objs.size, oI) ∈ own := hownall _ (.head _) (next_is_new F) _ hoI
    have hmt : (t, ot2) ∈ own := hownall _ (.tail _ (.head _)) (N _ ht).2.2 _ hot2
    have N₂ : News h₀ env.locals hh' ((s.heap.objs.size, oI) :: (t, ot2) :: news₁) := fun p hp => by
      rcases List.mem_cons.mp hp with rfl | hp
      · exact N₁ _ (List.mem_append_left _ hmI)
      · rcases List.mem_cons.mp hp with rfl | hp
        · exact N₁ _ (List.mem_append_left _ hmt)
        · exact N₁ p (List.mem_append_right _ hp)
    refine wpAny_mono (turn i v m₁ news₁ hh' tk' (s.heap.objs.size, oI) ot2 hP hJ (fun p hp q => hoff p hp (List.mem_singleton.mpr q)) F₁ N₂) (fun f s₂ p => ?_) fun _ _ e => e
    obtain ⟨rfl, h', tk, m', news', rfl, F', N', hn, hJ'⟩ := p
    refine .next ⟨rfl, h', tk, m', news', rfl, F', fun p hp => ?_, fun p hp hq => hn p hp (List.mem_singleton.mp hq), hJ'⟩
    rcases List.mem_append.mp hp with hp | hp
    · have h1 := howng p hp
      have h2 := hown p hp
      have one : ∀ (a : Addr) (oa : Obj), p.1 = a → hh'.get? a = some oa → p = (a, oa) := fun a oa e1 e2 => by
        have h1 : hh'.get? p.1 = some p.2 := h1
        rw [e1, e2] at h1
        exact Prod.ext e1 (Option.some.inj h1).symm
      rcases List.mem_cons.mp h2 with h2 | h2
      · rw [one _ _ h2 hoI]
        exact N' _ (.head _)
      · rw [one _ _ (List.mem_singleton.mp h2) hot2]
        exact N' _ (.tail _ (.head _))
    · exact N' p (.tail _ (.tail _ hp))
  · rintro h' tk m' news' F' N' _ hJ
    exact done m' news' h' tk hJ F' N'
theorem empty_map {w : World} {h : Heap} {a : Addr} {o : Obj} (ho : h.get? a = some o) (hs : Obj.IsDictOf (strKind RP w) o []) : h.MapOf (mix RP w) a (fun _ => none) := by
  obtain ⟨es, ep, hx, hd, hk, hp, _⟩ := hs
  have e : es = #[] := by
    obtain ⟨l⟩ := es
    cases l with
    | nil => rfl
    | cons x r => nomatch hp
  subst e
  exact ⟨o, #[], ep, ho, hx, hd, (fun x hx => by simp at hx), fun _ => rfl⟩

theorem fresh_of {s : Shared} {news : List (Addr × Obj)} {t : Addr} {o' : Obj} {g h' : Heap} {L' : Addr} {nw : List (Addr × Obj)} (hg : g = hideAll s.heap (news.map (·.1))) (N : News g L' h' nw) (hm : (t, o') ∈ nw) (ht : t ∉ news.map (·.1)) : s.heap.get? t = none := by
  cases q : s.heap.get? t with
  | none => rfl
  | some x =>
    have h1 := (N _ hm).2.2
    rw [hg, hideAll_get _ q ht] at h1
    cases h1

theorem init_code {w : World} {A : Around} {s : Shared} {R : Result → Shared → Prop} {x dx : Addr}
    (C : Rdy w A 3 s.heap [(x, instObj 122 dx), (dx, dictOf [] 0)]) (hlt : @LT.lt Nat _ dx x)
    (ret : ∀ (h' : Heap) (tk' : Nat) (r : Addr) (ro : Obj) (h1 h2 h3 h4 h5 : Int) (t1 t2 t3 t4 t5 tp : Tok), Keep [dx] s.heap h' → h'.get? dx = some (kmDict h1 h2 h3 h4 h5 t1 t2 t3 t4 t5 tp r false .none .none) →
      h'.get? r = some ro → ro.IsDictOf (mix RP w) [] → (r == sysModules) = false → s.heap.get? r = none → @LT.lt Nat _ x r → R (.ok (.ret .none)) { s with heap := h', toks := tk' }) :
    codeAny (model RP w) A (.call (.ref 84) ⟨[.ref x], []⟩) R s := by
  have hx0 : s.heap.get? x = some (instObj 122 dx) := C.at (p := (x, instObj 122 dx)) (.head _)
  refine' enter (n := 2) (fun p => methAt p 11 0) (PySem.Str.ofString "Keymap.__init__") C ?ho ?h1 ?h2 ?hq ?hcd ?hbind ?hloc ?hco ?hgen ?hk ?hcell ?_
  k_extra "my_enter"
  intro A₁ g L' h₁ tk mean mg mb hg Rd F N X T
  clear C
  obtain ⟨ah, dp, ev, gd, un⟩ := A₁
  obtain rfl : ah = none := (Rd _ _ _ F N).handled
  k_steps
  try dsimp only
  with_reducible rename Fr _ _ _ _ => F9
  with_reducible rename News _ _ _ _ => N9
  rename Obj.IsDictOf (strKind RP w) _ [] => hs9
  rename (_ == sysModules) = false => lo9
  have hk : Keep [dx] s.heap _ := fun b o hb e => by
    by_cases q : b = x
    · rw [q] at e ⊢
      rw [hx0] at e
      cases e
      exact N9.get (by k_mem)
    · exact keep_of_fr hg F9 b o (by simpa using ⟨q, by simpa using hb⟩) e
  refine ret _ _ _ _ _ _ _ _ _ _ _ _ _ _ _ hk (N9.get (by k_mem)) (N9 _ (.head _)).1 (isdict_nil hs9) lo9 (fresh_of hg N9 (.head _) ?_) (by omega)
  intro hm
  simp only [List.map_cons, List.map_nil, List.mem_cons, List.not_mem_nil, or_false] at hm
  rcases hm with q | q <;> exact absurd q ((by k_ne))

theorem ite_le (c : Prop) [Decidable c] : (if c then 1 else 0) ≤ 1 := by split <;> omega
theorem Rdy.under {w : World} {A : Around} {n : Nat} {hp : Heap} {news : List (Addr × Obj)} {args : Args} (C : Rdy w A (n + 1) hp news) : Rdy w (A.under (.builtin "type.__call__" args)) n hp news := by
  obtain ⟨dp, un, gd, env, outer, A₀, base, h₀, L, m, mean, mg, mb, rfl, B, F, X, T, hf, hk, N, h1, h2⟩ := C
  have hu : (Code.builtin "type.__call__" args).cUnits ≤ 8 := Nat.le_of_ble_eq_true rfl
  have hw : (Code.builtin "type.__call__" args).weight ≤ 1 := by
    simp [Code.weight, Code.frames, Code.isCreation, Code.isGuard, Code.isCaller, Code.isFrame, guardIds]
    exact ite_le _
  have he : pushEnvs (Code.builtin "type.__call__" args).envs (some (env :: outer)) = some (env :: outer) := rfl
  refine .mk (dp + (Code.builtin "type.__call__" args).weight) (un + (Code.builtin "type.__call__" args).cUnits) (pushGuards (Code.builtin "type.__call__" args).guards gd) env outer A₀ base h₀ L m mean mg mb ?_ B F X T hf hk N (by omega) (by omega)
  unfold Around.under
  rw [he]

theorem News.sub {h₀ h : Heap} {L : Addr} {news nw : List (Addr × Obj)} (N : News h₀ L h news) (hs : ∀ p ∈ nw, p ∈ news) : News h₀ L h nw := fun p hp => N p (hs p hp)

/-- Keymap() -/
theorem new_km {w : World} {A : Around} {E : Value → Shared → Prop} {s : Shared} {h₀ : Heap} {L : Addr} {m : Str → Option Value} {news : List (Addr × Obj)} {Q : Value → Shared → Prop} {n : Nat}
    (F : Fr h₀ L s.heap m) (N : News h₀ L s.heap news) (X : (KK w.params).In h₀) (hn : 4 ≤ n) (Rd : ∀ (h' : Heap) (m' : Str → Option Value) (nw : List (Addr × Obj)), Fr h₀ L h' m' → News h₀ L h' nw → Rdy w A n h' nw)
    (h : ∀ x dx r ro h' tk' (h1 h2 h3 h4 h5 : Int) (t1 t2 t3 t4 t5 tp : Tok), Fr h₀ L h' m → News h₀ L h' ((x, instObj 122 dx) :: (dx, kmDict h1 h2 h3 h4 h5 t1 t2 t3 t4 t5 tp r false .none .none) :: (r, ro) :: news) →
      (∀ p ∈ news, p.1 < dx) → @LT.lt Nat _ dx x → @LT.lt Nat _ x r → ro.IsDictOf (mix RP w) [] → (r == sysModules) = false → Q (.ref x) { s with heap := h', toks := tk' }) :
    wpAny (model RP w) A (call (.ref 122) [] []) Q E s := by
  refine' call_cls (fI := 84) F X N ?k4 ?k5 ?k6 ?_
  case k4 => k_is
  case k5 => k_is
  case k6 => k_is
  intro x dx h' F' N' l1 l2
  refine init_code (Rdy.under (Rdy.le (Rd _ _ _ F' (News.sub N' (nw := [(x, instObj 122 dx), (dx, dictOf [] 0)]) ?_)) hn)) l2 ?_
  · intro p hp
    rcases List.mem_cons.mp hp with rfl | hp
    · exact .head _
    · rw [List.mem_singleton.mp hp]; exact .tail _ (.head _)
  intro h'' tk r ro h1 h2 h3 h4 h5 t1 t2 t3 t4 t5 tp kp hdx hr hd lo hf hlt
  have U : UpdF dx (dictOf [] 0) ((x, instObj 122 dx) :: (dx, dictOf [] 0) :: news) _ := .tail (Nat.ne_of_gt l2) (.head fun p hp => Nat.ne_of_lt (l1 p hp))
  obtain ⟨F2, N2⟩ := keep_put F' N' U kp hdx
  have N3 := News.new (nw := [(r, ro)]) F' N2 (fun p hp => by rw [List.mem_singleton.mp hp]; exact ⟨hr, hf⟩)
  refine ⟨rfl, ?_⟩
  refine h x dx r ro h'' tk h1 h2 h3 h4 h5 t1 t2 t3 t4 t5 tp F2 (fun p hp => N3 p ?_) l1 l2 hlt hd lo
  rcases List.mem_cons.mp hp with rfl | hp
  · exact .tail _ (.head _)
  · rcases List.mem_cons.mp hp with rfl | hp
    · exact .tail _ (.tail _ (.head _))
    · rcases List.mem_cons.mp hp with rfl | hp
      · exact .head _
      · exact .tail _ (.tail _ (.tail _ hp))
theorem mix_int {w : World} (i : Int) (t : Tok) : (mix RP w).is (.inl i) (.int i t) = true := kyIs_int i t
theorem mix_str {w : World} (x : Str) (t : Tok) : (mix RP w).is (.inr x) (.str x t) = true := kyIs_str x t
theorem put_code {w : World} {A : Around} {s : Shared} {R : Result → Shared → Prop} {x dx r : Addr} {ro : Obj} {h1 h2 h3 h4 h5 : Int} {t1 t2 t3 t4 t5 tp : Tok} {b : Bool} {dv pv v bv : Value} {kvs : List (Ky × Value)} {e : Ky}
    (C : Rdy w A 3 s.heap [(x, instObj 122 dx), (dx, kmDict h1 h2 h3 h4 h5 t1 t2 t3 t4 t5 tp r b dv pv), (r, ro)]) (hro : ro.IsDictOf (mix RP w) kvs) (hz : kvs.length ≤ sizeLine) (he : kyIs e v = true) (hxr : @Ne Nat x r) (hdr : @Ne Nat dx r)
    (ret : ∀ (h' : Heap) (tk' : Nat) (ro' : Obj), Keep [r] s.heap h' → h'.get? r = some ro' → ro'.IsDictOf (mix RP w) (stored kvs e bv) → R (.ok (.ret .none)) { s with heap := h', toks := tk' }) :
    codeAny (model RP w) A (.call (.ref 105) ⟨[.ref x, v, bv], []⟩) R s := by
  have hx0 : s.heap.get? x = some (instObj 122 dx) := C.at (p := (x, instObj 122 dx)) (.head _)
  have hx1 : s.heap.get? dx = some (kmDict h1 h2 h3 h4 h5 t1 t2 t3 t4 t5 tp r b dv pv) := C.at (p := (dx, kmDict h1 h2 h3 h4 h5 t1 t2 t3 t4 t5 tp r b dv pv)) (.tail _ (.head _))
  refine' enter (n := 2) (fun p => methAt p 11 3) (binds := [(PySem.Str.ofString "self", .ref x), (PySem.Str.ofString "event", v), (PySem.Str.ofString "binding", bv)]) (PySem.Str.ofString "Keymap.put") C ?ho ?h1 ?h2 ?hq ?hcd ?hbind ?hloc ?hco ?hgen ?hk ?hcell ?_
  k_extra "my_enter"
  intro A₁ g L' h₁ tk mean mg mb hg Rd F N X T
  clear C
  obtain ⟨ah, dp, ev, gd, un⟩ := A₁
  obtain rfl : ah = none := (Rd _ _ _ F N).handled
  k_steps
  try dsimp only
  with_reducible rename Fr _ _ _ _ => F9
  with_reducible rename News _ _ _ _ => N9
  have hk : Keep [r] s.heap _ := fun b o hb e => by
    by_cases q : b = x
    · rw [q] at e ⊢
      rw [hx0] at e
      cases e
      exact N9.get (by k_mem)
    · by_cases q2 : b = dx
      · rw [q2] at e ⊢
        rw [hx1] at e
        cases e
        exact N9.get (by k_mem)
      · exact keep_of_fr hg F9 b o (by simpa using ⟨q, q2, by simpa using hb⟩) e
  exact ret _ _ _ hk (N9.get (by k_mem)) (by assumption)

theorem setdef_code {w : World} {A : Around} {s : Shared} {R : Result → Shared → Prop} {x dx r : Addr} {h1 h2 h3 h4 h5 : Int} {t1 t2 t3 t4 t5 tp : Tok} {b : Bool} {dv pv bv : Value}
    (C : Rdy w A 3 s.heap [(x, instObj 122 dx), (dx, kmDict h1 h2 h3 h4 h5 t1 t2 t3 t4 t5 tp r b dv pv)]) (hlt : @LT.lt Nat _ dx x) (hh : handedIn bv = true)
    (ret : ∀ (h' : Heap) (tk' : Nat), Keep [dx] s.heap h' → h'.get? dx = some (kmDict h1 h2 h3 h4 h5 t1 t2 t3 t4 t5 tp r true bv pv) → R (.ok (.ret .none)) { s with heap := h', toks := tk' }) :
    codeAny (model RP w) A (.call (.ref 119) ⟨[.ref x, bv], []⟩) R s := by
  have hx0 : s.heap.get? x = some (instObj 122 dx) := C.at (p := (x, instObj 122 dx)) (.head _)
  refine' enter (n := 2) (fun p => methAt p 11 5) (binds := [(PySem.Str.ofString "self", .ref x), (PySem.Str.ofString "binding", bv)]) (PySem.Str.ofString "Keymap.set_default") C ?ho ?h1 ?h2 ?hq ?hcd ?hbind ?hloc ?hco ?hgen ?hk ?hcell ?_
  k_extra "my_enter"
  intro A₁ g L' h₁ tk mean mg mb hg Rd F N X T
  clear C
  obtain ⟨ah, dp, ev, gd, un⟩ := A₁
  obtain rfl : ah = none := (Rd _ _ _ F N).handled
  k_steps
  try dsimp only
  with_reducible rename Fr _ _ _ _ => F9
  with_reducible rename News _ _ _ _ => N9
  have hk : Keep [dx] s.heap _ := fun b o hb e => by
    by_cases q : b = x
    · rw [q] at e ⊢
      rw [hx0] at e
      cases e
      exact N9.get (by k_mem)
    · exact keep_of_fr hg F9 b o (by simpa using ⟨q, by simpa using hb⟩) e
  exact ret _ _ hk (N9.get (by k_mem))

section
variable {w : World} {A : Around} {E : Value → Shared → Prop} {s : Shared} {h₀ : Heap} {L : Addr} {m : Str → Option Value} {news : List (Addr × Obj)} {u : Obj → List (Addr × Obj)} {Q : Value → Shared → Prop} {nn : Nat}
theorem draw_here {deck l0 e : Nat} {n many : Int} {t tm : Tok} {vs : List Value} {ns : List Int} (F : Fr h₀ L s.heap m) (N : News h₀ L s.heap news) (U : UpdF deck (PySem.W.listOf #[.ref l0, .int n t] e) news u)
    (Rd : ∀ (h' : Heap) (m' : Str → Option Value) (nw : List (Addr × Obj)), Fr h₀ L h' m' → News h₀ L h' nw → Rdy w A nn h' nw) (hnn : 3 ≤ nn)
    (hl : s.heap.IsList l0 vs.toArray) (hi : IntsAre vs ns) (hlen : ns.length ≤ 63) (hne : l0 ≠ deck) (hn0 : 0 ≤ n) (hn1 : n ≤ 1000) (hm1 : 1 ≤ many) (hm8 : many ≤ 8)
    (h : ∀ (v : Int) (tv t' : Tok) (e' : Nat) (h' : Heap) (tk' : Nat), 0 ≤ v → v < many → Fr h₀ L h' m → News h₀ L h' (u (PySem.W.listOf #[.ref l0, .int (n + 1) t'] e')) → Q (.int v tv) { s with heap := h', toks := tk' }) :
    wpAny (model RP w) A (call (.ref 245) [.ref deck, .int many tm] []) Q E s := by
  obtain ⟨pre, post, hnews, _⟩ := U.split
  have hm : (deck, PySem.W.listOf #[.ref l0, .int n t] e) ∈ news := by rw [hnews]; exact List.mem_append_right _ (.head _)
  refine wpAny_call (draw_code (Rdy.le (Rd _ _ _ F (News.only N hm)) hnn) hl hi hlen hn0 hn1 hm1 hm8 hne ?_)
  intro v tv t' e' h' tk' a1 a2 kp hd
  obtain ⟨F', N'⟩ := keep_put F N U kp hd
  exact h v tv t' e' h' tk' a1 a2 F' N'

theorem put_here {x dx r : Addr} {ro : Obj} {h1 h2 h3 h4 h5 : Int} {t1 t2 t3 t4 t5 tp : Tok} {b : Bool} {dv pv v bv : Value} {kvs : List (Ky × Value)} {e : Ky} (F : Fr h₀ L s.heap m) (N : News h₀ L s.heap news)
    (hx : (x, instObj 122 dx) ∈ news) (hdx : (dx, kmDict h1 h2 h3 h4 h5 t1 t2 t3 t4 t5 tp r b dv pv) ∈ news) (U : UpdF r ro news u)
    (Rd : ∀ (h' : Heap) (m' : Str → Option Value) (nw : List (Addr × Obj)), Fr h₀ L h' m' → News h₀ L h' nw → Rdy w A nn h' nw) (hnn : 3 ≤ nn)
    (hro : ro.IsDictOf (mix RP w) kvs) (hz : kvs.length ≤ sizeLine) (he : kyIs e v = true) (hxr : @Ne Nat x r) (hdr : @Ne Nat dx r)
    (h : ∀ (h' : Heap) (tk' : Nat) (ro' : Obj), Fr h₀ L h' m → News h₀ L h' (u ro') → ro'.IsDictOf (mix RP w) (stored kvs e bv) → Q .none { s with heap := h', toks := tk' }) :
    wpAny (model RP w) A (call (.ref 105) [.ref x, v, bv] []) Q E s := by
  obtain ⟨pre, post, hnews, _⟩ := U.split
  have hm : (r, ro) ∈ news := by rw [hnews]; exact List.mem_append_right _ (.head _)
  have N3 : News h₀ L s.heap [(x, instObj 122 dx), (dx, kmDict h1 h2 h3 h4 h5 t1 t2 t3 t4 t5 tp r b dv pv), (r, ro)] := News.sub N fun p hp => by
    rcases List.mem_cons.mp hp with rfl | hp
    · exact hx
    · rcases List.mem_cons.mp hp with rfl | hp
      · exact hdx
      · rw [List.mem_singleton.mp hp]; exact hm
  refine wpAny_call (put_code (Rdy.le (Rd _ _ _ F N3) hnn) hro hz he hxr hdr ?_)
  intro h' tk' ro' kp hd hq
  obtain ⟨F', N'⟩ := keep_put F N U kp hd
  exact h h' tk' ro' F' N' hq

theorem setdef_here {x dx r : Addr} {h1 h2 h3 h4 h5 : Int} {t1 t2 t3 t4 t5 tp : Tok} {b : Bool} {dv pv bv : Value} (F : Fr h₀ L s.heap m) (N : News h₀ L s.heap news)
    (hx : (x, instObj 122 dx) ∈ news) (U : UpdF dx (kmDict h1 h2 h3 h4 h5 t1 t2 t3 t4 t5 tp r b dv pv) news u)
    (Rd : ∀ (h' : Heap) (m' : Str → Option Value) (nw : List (Addr × Obj)), Fr h₀ L h' m' → News h₀ L h' nw → Rdy w A nn h' nw) (hnn : 3 ≤ nn) (hlt : @LT.lt Nat _ dx x) (hh : handedIn bv = true)
    (h : ∀ (h' : Heap) (tk' : Nat), Fr h₀ L h' m → News h₀ L h' (u (kmDict h1 h2 h3 h4 h5 t1 t2 t3 t4 t5 tp r true bv pv)) → Q .none { s with heap := h', toks := tk' }) :
    wpAny (model RP w) A (call (.ref 119) [.ref x, bv] []) Q E s := by
  obtain ⟨pre, post, hnews, _⟩ := U.split
  have hm : (dx, kmDict h1 h2 h3 h4 h5 t1 t2 t3 t4 t5 tp r b dv pv) ∈ news := by rw [hnews]; exact List.mem_append_right _ (.head _)
  have N3 : News h₀ L s.heap [(x, instObj 122 dx), (dx, kmDict h1 h2 h3 h4 h5 t1 t2 t3 t4 t5 tp r b dv pv)] := News.sub N fun p hp => by
    rcases List.mem_cons.mp hp with rfl | hp
    · exact hx
    · rw [List.mem_singleton.mp hp]; exact hm
  refine wpAny_call (setdef_code (Rdy.le (Rd _ _ _ F N3) hnn) hlt hh ?_)
  intro h' tk' kp hd
  obtain ⟨F', N'⟩ := keep_put F N U kp hd
  exact h h' tk' F' N'
end
theorem isdict_mix {w : World} {o : Obj} {kvs : List (Str × Value)} (h : o.IsDictOf (strKind RP w) kvs) : o.IsDictOf (mix RP w) (kvs.map fun p => ((.inr p.1 : Ky), p.2)) := by
  obtain ⟨es, ep, hx, hd, hk, hp, hn⟩ := h
  refine ⟨es, ep, hx, hd, ?_, ?_, ?_⟩
  · intro e he
    obtain ⟨k, h1, h2⟩ := hk e he
    exact ⟨.inr k, h1, h2⟩
  · clear hd hk hn
    generalize es.toList = l at hp ⊢
    induction hp with
    | nil => exact .nil
    | cons h1 h2 _ ih => exact .cons h1 h2 ih
  · rw [List.map_map]
    have e : (fun p : Ky × Value => p.1) ∘ (fun p : Str × Value => ((.inr p.1 : Ky), p.2)) = (fun x => (.inr x : Ky)) ∘ fun p : Str × Value => p.1 := rfl
    show (List.map ((fun p : Ky × Value => p.1) ∘ (fun p : Str × Value => ((.inr p.1 : Ky), p.2))) kvs).Nodup
    rw [e, ← List.map_map]
    exact List.Pairwise.map _ (fun a b hab h => hab (Sum.inr.inj h)) hn
theorem isdict_map {w : World} {h : Heap} {a : Addr} {o : Obj} {kvs : List (Ky × Value)} (ho : h.get? a = some o) (hd : o.IsDictOf (mix RP w) kvs) : h.MapOf (mix RP w) a (valueAt kvs) := (Heap.dictOf_iff.mpr ⟨o, ho, hd⟩).mapOf

/-- the law's own dict, as text -/
noncomputable abbrev ownRows (q : Addr) (dv pv : Value) : List (Str × Value) := [(PySem.Str.ofString "rows", .ref q), (PySem.Str.ofString "default", dv), (PySem.Str.ofString "parent", pv)]

theorem o1_mk {α : Type} {w : World} {R : Heap → Addr → α → Prop} {h : Heap} {o q : Addr} {oo qo : Obj} {dv pv : Value} {kvs : List (Ky × Value)} {l : Lv α} (ho : h.get? o = some oo) (hoo : oo.IsDictOf (strKind RP w) (ownRows q dv pv)) (hq : h.get? q = some qo) (hqo : qo.IsDictOf (mix RP w) kvs)
    (lo : (o == sysModules) = false) (lq : (q == sysModules) = false) (hv : ∀ e, VO R h (valueAt kvs e) (l.rows e)) (hd : VD dv l.dflt) : O1 w R h o pv l :=
  .mk q dv _ _ (isdict_map ho (isdict_mix hoo)) lo (by with_unfolding_all rfl) (by with_unfolding_all rfl) (by with_unfolding_all rfl) (isdict_map hq hqo) lq hv hd
theorem k1_mk {α : Type} {w : World} {R : Heap → Addr → α → Prop} {h : Heap} {k dx r : Addr} {h1 h2 h3 h4 h5 : Int} {t1 t2 t3 t4 t5 tp : Tok} {ro : Obj} {dv pv : Value} {kvs : List (Ky × Value)} {l : Lv α} (hk : h.get? k = some (instObj 122 dx))
    (hdx : h.get? dx = some (kmDict h1 h2 h3 h4 h5 t1 t2 t3 t4 t5 tp r l.dflt.isSome dv pv)) (hr : h.get? r = some ro) (hro : ro.IsDictOf (mix RP w) kvs) (lr : (r == sysModules) = false) (hv : ∀ e, VO R h (valueAt kvs e) (l.rows e)) (hd : VD dv l.dflt) : K1 w R h k pv l :=
  .mk dx r h1 h2 h3 h4 h5 t1 t2 t3 t4 t5 tp dv _ hk hdx (isdict_map hr hro) lr hv hd

theorem News.cls_ne {h₀ h : Heap} {L : Addr} {news : List (Addr × Obj)} (N : News h₀ L h news) {a b : Addr} {o1 o2 : Obj} (h1 : (a, o1) ∈ news) (h2 : (b, o2) ∈ news) (hc : o1.cls ≠ o2.cls) : @Ne Nat a b := fun q => by
  have e1 := (N _ h1).1
  have e2 := (N _ h2).1
  have q : a = b := q
  simp only at e1 e2
  rw [q, e2] at e1
  exact hc (congrArg Obj.cls (Option.some.inj e1)).symm

/-- what a made map gives back -/
noncomputable def MapRet {α : Type} (w : World) (RK RO : Heap → Addr → α → Prop) (R : Result → Shared → Prop) (s : Shared) (deck l0 : Addr) (n : Int) (c : Int) : Prop :=
  ∀ (h' : Heap) (tk' tp nt k dx r o q : Nat) (oo : Obj) (rest : List (Addr × Obj)) (l : Lv α) (dv : Value) (h1 h2 h3 h4 h5 : Int) (t1 t2 t3 t4 t5 tq : Tok) (n' : Int) (t' : Tok) (e' : Nat),
    Keep [deck] s.heap h' → h'.get? deck = some (PySem.W.listOf #[.ref l0, .int n' t'] e') → n ≤ n' → n' ≤ n + c →
    (∀ p ∈ (tp, tupOf #[.ref k, .ref o] nt) :: (dx, kmDict h1 h2 h3 h4 h5 t1 t2 t3 t4 t5 tq r l.dflt.isSome dv .none) :: (o, oo) :: rest, h'.get? p.1 = some p.2 ∧ s.heap.get? p.1 = none) →
    OwnOff rest [dx, o] → @Ne Nat dx o → (k, instObj 122 dx) ∈ rest → oo.IsDictOf (strKind RP w) (ownRows q dv .none) → (o == sysModules) = false →
    Told rest (fun h => ∀ pv, h.get? dx = some (kmDict h1 h2 h3 h4 h5 t1 t2 t3 t4 t5 tq r l.dflt.isSome dv pv) → K1 w RK h k pv l) →
    Told rest (fun h => ∀ pv oo', oo'.IsDictOf (strKind RP w) (ownRows q dv pv) → h.get? o = some oo' → O1 w RO h o pv l) →
    R (.ok (.ret (.ref tp))) { s with heap := h', toks := tk' }

theorem map_fin {α : Type} {w : World} {RK RO : Heap → Addr → α → Prop} {R : Result → Shared → Prop} {s : Shared} {deck l0 L' e : Nat} {n c : Int} {g h' : Heap} {do0 : Obj} {m : Str → Option Value} {news own : List (Addr × Obj)} {kvs kvs2 : List (Ky × Value)} {rows : Ky → Option (Bd α)} {df : Option Str}
    {tk' tp nt k dx r o q : Nat} {ro oo qo : Obj} {b : Bool} {dv : Value} {h1 h2 h3 h4 h5 : Int} {t1 t2 t3 t4 t5 tq : Tok} {n' : Int} {t' : Tok} (ret : MapRet w RK RO R s deck l0 n c) (hg : g = hideAll s.heap ([(deck, do0)].map (·.1))) (F : Fr g L' h' m) (N : News g L' h' news)
    (md : (deck, PySem.W.listOf #[.ref l0, .int n' t'] e) ∈ news) (mt : (tp, tupOf #[.ref k, .ref o] nt) ∈ news) (mk : (k, instObj 122 dx) ∈ news) (mx : (dx, kmDict h1 h2 h3 h4 h5 t1 t2 t3 t4 t5 tq r b dv .none) ∈ news) (mr : (r, ro) ∈ news) (mo : (o, oo) ∈ news) (mq : (q, qo) ∈ news)
    (mown : ∀ p ∈ own, p ∈ news) (l1 : n ≤ n') (l2 : n' ≤ n + c) (ne : @LT.lt Nat _ deck dx) (ne1 : @LT.lt Nat _ dx k) (ne2 : @LT.lt Nat _ k r) (ne3 : @LT.lt Nat _ r o) (ne4 : @LT.lt Nat _ o q) (O : OwnOff own [deck, dx, o])
    (hro : ro.IsDictOf (mix RP w) kvs) (hqo : qo.IsDictOf (mix RP w) kvs2) (hoo : oo.IsDictOf (strKind RP w) (ownRows q dv .none)) (lr : (r == sysModules) = false) (lo : (o == sysModules) = false) (lq : (q == sysModules) = false)
    (T : Told own fun h => ∀ e, VO RK h (valueAt kvs e) (rows e) ∧ VO RO h (valueAt kvs2 e) (rows e)) (hd : VD dv df) (hb : b = df.isSome) : R (.ok (.ret (.ref tp))) { s with heap := h', toks := tk' } := by
  subst hb
  have fr : ∀ p, p ∈ news → p.1 ≠ deck → h'.get? p.1 = some p.2 ∧ s.heap.get? p.1 = none := fun p hp hne => ⟨(N p hp).1, fresh_of hg N (o' := p.2) hp (by simpa using hne)⟩
  refine ret h' tk' tp nt k dx r o q oo ((k, instObj 122 dx) :: (r, ro) :: (q, qo) :: own) ⟨rows, df⟩ dv h1 h2 h3 h4 h5 t1 t2 t3 t4 t5 tq n' t' e (keep_of_fr hg F) (N _ md).1 l1 l2 ?_ ?_ ?_ (.head _) hoo lo ?_ ?_
  · intro p hp
    simp only [List.mem_cons] at hp
    rcases hp with rfl | rfl | rfl | rfl | rfl | rfl | hp
    · exact fr _ mt (News.cls_ne N mt md (by simp))
    · exact fr _ mx (neN (by omega))
    · exact fr _ mo (neN (by omega))
    · exact fr _ mk (neN (by omega))
    · exact fr _ mr (neN (by omega))
    · exact fr _ mq (neN (by omega))
    · exact fr p (mown p hp) (O p hp deck (.head _))
  · intro p hp b hb
    have hb : b = dx ∨ b = o := by simpa using hb
    simp only [List.mem_cons] at hp
    rcases hp with rfl | rfl | rfl | hp
    · rcases hb with rfl | rfl <;> exact neN (by omega)
    · rcases hb with rfl | rfl <;> exact neN (by omega)
    · rcases hb with rfl | rfl <;> exact neN (by omega)
    · exact O p hp b (by rcases hb with rfl | rfl <;> simp)
  · exact neN (by omega)
  · intro h hh pv hx
    have T' := T.weak (own' := (k, instObj 122 dx) :: (r, ro) :: (q, qo) :: own) (fun p hp => .tail _ (.tail _ (.tail _ hp))) h hh
    exact k1_mk (hh _ (.head _)) hx (hh _ (.tail _ (.head _))) hro lr (fun e => (T' e).1) hd
  · intro h hh pv oo' hd' ho
    have T' := T.weak (own' := (k, instObj 122 dx) :: (r, ro) :: (q, qo) :: own) (fun p hp => .tail _ (.tail _ (.tail _ hp))) h hh
    exact o1_mk ho hd' (hh _ (.tail _ (.tail _ (.head _)))) hqo lo lq (fun e => (T' e).2) hd

theorem OwnOff.more {own : List (Addr × Obj)} {a b : List Addr} (h1 : OwnOff own a) (h2 : OwnOff own b) : OwnOff own (a ++ b) := fun p hp x hx => (List.mem_append.mp hx).elim (h1 p hp x) (h2 p hp x)
theorem allLt_mem {d : Addr} : ∀ {l : List (Addr × Obj)}, AllLt d l → ∀ p ∈ l, @LT.lt Nat _ p.1 d
  | [], _, p, h => nomatch h
  | _ :: _, h, p, hp => by
    rcases List.mem_cons.mp hp with rfl | hp
    · exact h.1
    · exact allLt_mem h.2 p hp
theorem allLt_off {d : Addr} {l : List (Addr × Obj)} {adr : List Addr} (h : AllLt d l) (ha : ∀ b ∈ adr, @LE.le Nat _ d b) : OwnOff l adr := fun p hp b hb q => by
  have h1 := allLt_mem h p hp
  have h2 := ha b hb
  have q : p.1 = b := q
  rw [q] at h1
  exact absurd h1 (Nat.not_lt.mpr h2)

theorem isdict_dflt {w : World} {o : Obj} {q : Addr} {dv pv v : Value} (h : o.IsDictOf (strKind RP w) (stored (ownRows q dv pv) (PySem.Str.ofString "default") v)) : o.IsDictOf (strKind RP w) (ownRows q v pv) := by
  have e : stored (ownRows q dv pv) (PySem.Str.ofString "default") v = ownRows q v pv := by with_unfolding_all rfl
  rw [e] at h; exact h
theorem isdict_parent {w : World} {o : Obj} {q : Addr} {dv pv v : Value} (h : o.IsDictOf (strKind RP w) (stored (ownRows q dv pv) (PySem.Str.ofString "parent") v)) : o.IsDictOf (strKind RP w) (ownRows q dv v) := by
  have e : stored (ownRows q dv pv) (PySem.Str.ofString "parent") v = ownRows q dv v := by with_unfolding_all rfl
  rw [e] at h; exact h
theorem subs_refl {α : Type} {l : List α} : ∀ p ∈ l, p ∈ l := fun _ h => h
theorem subs_nil {α : Type} {l : List α} : ∀ p ∈ ([] : List α), p ∈ l := fun _ h => nomatch h
theorem subs_cons {α : Type} {a : α} {l l' : List α} (h : a ∈ l') (t : ∀ p ∈ l, p ∈ l') : ∀ p ∈ a :: l, p ∈ l' := fun p hp => by
  rcases List.mem_cons.mp hp with rfl | hp
  · exact h
  · exact t p hp
theorem subs_app {α : Type} {a b l' : List α} (h : ∀ p ∈ a, p ∈ l') (t : ∀ p ∈ b, p ∈ l') : ∀ p ∈ a ++ b, p ∈ l' := fun p hp => (List.mem_append.mp hp).elim (h p) (t p)
theorem subs_tail {α : Type} {a : α} {l l' : List α} (t : ∀ p ∈ l, p ∈ l') : ∀ p ∈ l, p ∈ a :: l' := fun p hp => .tail _ (t p hp)
theorem subs_left {α : Type} {a b l : List α} (t : ∀ p ∈ l, p ∈ a) : ∀ p ∈ l, p ∈ a ++ b := fun p hp => List.mem_append_left _ (t p hp)
theorem subs_right {α : Type} {a b l : List α} (t : ∀ p ∈ l, p ∈ b) : ∀ p ∈ l, p ∈ a ++ b := fun p hp => List.mem_append_right _ (t p hp)
theorem fa_nil {α : Type} {P : α → Prop} : ∀ p ∈ ([] : List α), P p := fun _ h => nomatch h
theorem fa_cons {α : Type} {P : α → Prop} {a : α} {l : List α} (h : P a) (t : ∀ p ∈ l, P p) : ∀ p ∈ a :: l, P p := fun p hp => by
  rcases List.mem_cons.mp hp with rfl | hp
  · exact h
  · exact t p hp
theorem fa_app {α : Type} {P : α → Prop} {a b : List α} (h : ∀ p ∈ a, P p) (t : ∀ p ∈ b, P p) : ∀ p ∈ a ++ b, P p := fun p hp => (List.mem_append.mp hp).elim (h p) (t p)
noncomputable def CutF (P : Shared → Prop) (f : Flow) (s' : Shared) : Prop := f = .next ∧ P s'
theorem CutF.mk {P : Shared → Prop} {s' : Shared} (h : P s') : CutF P .next s' := ⟨rfl, h⟩
/-- one statement for itself -/
theorem cut {M : Model} {A : Around} {E : Value → Shared → Prop} {env : Env} {Q : Flow → Shared → Prop} {s : Shared} {st : Stmt} {rest : List Stmt} (P : Shared → Prop) (h1 : wpAny M A (exec st env) (CutF P) E s) (h2 : ∀ s', P s' → wpAny M A (execs rest env) Q E s') :
    wpAny M A (execs (st :: rest) env) Q E s := wpAny_execs_cons (wpAny_mono h1 (fun f s' x => by obtain ⟨rfl, x⟩ := x; exact h2 s' x) (fun _ _ e => e))
theorem valueAt_stored {kvs : List (Ky × Value)} {k e : Ky} {v : Value} : valueAt (stored kvs k v) e = if e = k then some v else valueAt kvs e := by
  unfold stored valueAt
  induction kvs with
  | nil =>
    by_cases q : e = k
    · subst q; simp
    · simp [q, Ne.symm q]
  | cons p r ih =>
    by_cases h0 : p.1 = k
    · subst h0
      by_cases q : e = p.1
      · subst q; simp
      · simp only [List.any_cons, decide_true, Bool.true_or, if_true, List.map_cons, q, if_false] at ih ⊢
        have q' : ¬ p.1 = e := fun h => q h.symm
        simp only [List.find?_cons, q', decide_false]
        by_cases q2 : r.any (fun kv => decide (kv.1 = p.1)) = true
        · rw [if_pos q2] at ih
          exact ih
        · rw [if_neg q2] at ih
          have e2 : r.map (fun kv => if kv.1 = p.1 then (kv.1, v) else kv) = r := by
            conv => rhs; rw [← List.map_id r]
            refine List.map_congr_left fun kv hkv => ?_
            have : ¬ kv.1 = p.1 := fun h => q2 (List.any_eq_true.mpr ⟨kv, hkv, by simpa using h⟩)
            simp [this]
          rw [e2]
    · have e0 : (p :: r).any (fun kv => decide (kv.1 = k)) = r.any (fun kv => decide (kv.1 = k)) := by simp [h0]
      rw [e0]
      by_cases q2 : r.any (fun kv => decide (kv.1 = k)) = true
      · rw [if_pos q2] at ih ⊢
        simp only [List.map_cons, h0, if_false, List.find?_cons]
        by_cases q : p.1 = e
        · have : ¬ e = k := fun h => h0 (q.trans h)
          simp [q, this]
        · simp only [q, decide_false]
          exact ih
      · rw [if_neg q2] at ih ⊢
        simp only [List.cons_append, List.find?_cons]
        by_cases q : p.1 = e
        · have : ¬ e = k := fun h => h0 (q.trans h)
          simp [q, this]
        · simp only [q, decide_false]
          exact ih
theorem stored_has {kvs : List (Ky × Value)} {k : Ky} {v : Value} : (valueAt (stored kvs k v) k).isSome = true := by rw [valueAt_stored, if_pos rfl]; rfl

theorem item3 {t1 t2 t3 : Tok} {i : Nat} {v : Value} (h : (#[Value.int 97 t1, .int 98 t2, .int 99 t3] : Array Value)[i]? = some v) : ∃ tt, i < 3 ∧ v = .int (97 + (i : Int)) tt := by
  match i, h with
  | 0, h => exact ⟨t1, by omega, (Option.some.inj h).symm⟩
  | 1, h => exact ⟨t2, by omega, (Option.some.inj h).symm⟩
  | 2, h => exact ⟨t3, by omega, (Option.some.inj h).symm⟩
  | i + 3, h => simp at h
theorem isSome_none {k : Ky} {kvs : List (Ky × Value)} (h : valueAt kvs k = none) : (valueAt kvs k).isSome = false := by rw [h]; rfl

/-- a map of no depth, made by a call -/
noncomputable def SubC {α : Type} (w : World) (RK RO : Heap → Addr → α → Prop) : Prop :=
  ∀ {A : Around} {s : Shared} {R : Result → Shared → Prop} {deck l0 e : Nat} {n : Int} {t : Tok} {vs : List Value} {ns : List Int}, Rdy w A 9 s.heap [(deck, PySem.W.listOf #[.ref l0, .int n t] e)] → s.heap.IsList l0 vs.toArray → IntsAre vs ns → ns.length ≤ 63 → l0 ≠ deck → 0 ≤ n → n ≤ 900 →
    (∀ (h' : Heap) (tk' : Nat) (tp nt k o : Nat) (own : List (Addr × Obj)) (a : α) (n' : Int) (t' : Tok) (e' : Nat), Keep [deck] s.heap h' → h'.get? deck = some (PySem.W.listOf #[.ref l0, .int n' t'] e') → n ≤ n' → n' ≤ n + 10 →
      (∀ p ∈ (tp, tupOf #[.ref k, .ref o] nt) :: own, h'.get? p.1 = some p.2 ∧ s.heap.get? p.1 = none) → Told own (fun h => RK h k a ∧ RO h o a) → R (.ok (.ret (.ref tp))) { s with heap := h', toks := tk' }) →
    codeAny (model RP w) A (.call (.ref 252) ⟨[.ref deck, .bool false], []⟩) R s

section
variable {w : World} {A : Around} {E : Value → Shared → Prop} {s : Shared} {h₀ : Heap} {L : Addr} {m : Str → Option Value} {news : List (Addr × Obj)} {u : Obj → List (Addr × Obj)} {Q : Value → Shared → Prop} {nn : Nat}
theorem sub_here {α : Type} {RK RO : Heap → Addr → α → Prop} {deck l0 e : Nat} {n : Int} {t : Tok} {vs : List Value} {ns : List Int} (hc : SubC w RK RO) (F : Fr h₀ L s.heap m) (N : News h₀ L s.heap news) (U : UpdF deck (PySem.W.listOf #[.ref l0, .int n t] e) news u)
    (Rd : ∀ (h' : Heap) (m' : Str → Option Value) (nw : List (Addr × Obj)), Fr h₀ L h' m' → News h₀ L h' nw → Rdy w A nn h' nw) (hnn : 9 ≤ nn)
    (hl : s.heap.IsList l0 vs.toArray) (hi : IntsAre vs ns) (hlen : ns.length ≤ 63) (hne : l0 ≠ deck) (hn0 : 0 ≤ n) (hn1 : n ≤ 900)
    (h : ∀ (h' : Heap) (tk' : Nat) (tp nt k o : Nat) (own : List (Addr × Obj)) (a : α) (n' : Int) (t' : Tok) (e' : Nat), Fr h₀ L h' m → News h₀ L h' ((tp, tupOf #[.ref k, .ref o] nt) :: (u (PySem.W.listOf #[.ref l0, .int n' t'] e') ++ own)) → n ≤ n' → n' ≤ n + 10 →
      s.heap.get? tp = none → (∀ p ∈ own, s.heap.get? p.1 = none) → Told own (fun h => RK h k a ∧ RO h o a) → Q (.ref tp) { s with heap := h', toks := tk' }) :
    wpAny (model RP w) A (call (.ref 252) [.ref deck, .bool false] []) Q E s := by
  obtain ⟨pre, post, hnews, _⟩ := U.split
  have hm : (deck, PySem.W.listOf #[.ref l0, .int n t] e) ∈ news := by rw [hnews]; exact List.mem_append_right _ (.head _)
  refine wpAny_call (hc (Rdy.le (Rd _ _ _ F (News.only N hm)) hnn) hl hi hlen hne hn0 hn1 ?_)
  intro h' tk' tp nt k o own a n' t' e' kp hd l1 l2 hnew T
  obtain ⟨F', N'⟩ := keep_put F N U kp hd
  refine h h' tk' tp nt k o own a n' t' e' F' (fun p hp => ?_) l1 l2 (hnew _ (.head _)).2 (fun p hp => (hnew p (.tail _ hp)).2) T
  have NN := News.new F N' hnew
  rcases List.mem_cons.mp hp with rfl | hp
  · exact NN _ (List.mem_append_left _ (.head _))
  · rcases List.mem_append.mp hp with hp | hp
    · exact NN p (List.mem_append_right _ hp)
    · exact NN p (List.mem_append_left _ (.tail _ hp))
/-- an item of a written menu -/
theorem item_menu {value slice : PySem.Expr} {l e : Nat} {vs : List Value} {k : Int} {t : Tok} {P : Value → Prop} (N : News h₀ L s.heap news) (hm : (l, PySem.W.listOf vs.toArray e) ∈ news) (h0 : 0 ≤ k) (h1 : k < vs.length) (h2 : vs.length ≤ 100) (hP : ∀ x ∈ vs, P x)
    (h : ∀ v, P v → Q v s) (hs : subscripted slice false (.ref l) (.int k t) = operate [.ref l, .int k t] (getItem (.ref l) (.int k t)) := by with_unfolding_all rfl) :
    wpAny (model RP w) A (subscriptTail value slice (.ref l) (.int k t)) Q E s := by
  have hl : s.heap.IsList l vs.toArray := ⟨_, (N _ hm).1, rfl, _, rfl⟩
  have hk : k.toNat < vs.length := by omega
  exact tail_any hl.typeIs slot_list_getitem.lookup (wpAny_getItem_list hl h0 (by omega) (x := vs[k.toNat]) (by simp [hk]) (h _ (hP _ (List.getElem_mem hk)))) hs
end
noncomputable def bdOf {α : Type} : Option Str → Bd α
  | none => .nil
  | some c => .cmd c
theorem vb_of {α : Type} {R : Heap → Addr → α → Prop} {h : Heap} : ∀ {v : Value} {c : Option Str}, VD v c → VB R h v (bdOf c)
  | .none, none, _ => trivial
  | .str _ _, some _, e => e

theorem mapJ_put {α : Type} {RK RO : Heap → Addr → α → Prop} {own own' : List (Addr × Obj)} {kvs kvs2 : List (Ky × Value)} {rows : Ky → Option (Bd α)} {bk bo : Value} {b : Bd α} {e : Ky} (hs : ∀ p ∈ own, p ∈ own')
    (a9 : Told own fun h => ∀ e, VO RK h (valueAt kvs e) (rows e) ∧ VO RO h (valueAt kvs2 e) (rows e)) (hb : Told own' fun h => VB RK h bk b ∧ VB RO h bo b) :
    Told own' fun h => ∀ x, VO RK h (valueAt (stored kvs e bk) x) (if x = e then some b else rows x) ∧ VO RO h (valueAt (stored kvs2 e bo) x) (if x = e then some b else rows x) := by
  intro h hh x
  have h1 := a9.weak hs h hh x
  have h2 := hb h hh
  rw [valueAt_stored, valueAt_stored]
  by_cases q : x = e
  · rw [if_pos q, if_pos q, if_pos q]; exact h2
  · rw [if_neg q, if_neg q, if_neg q]; exact h1
theorem vo_none {α : Type} {R : Heap → Addr → α → Prop} {h : Heap} : ∀ {o : Option Value}, VO R h o none → o = none
  | none, _ => rfl
theorem OwnOff.both {own own2 : List (Addr × Obj)} {adr : List Addr} {h₀ h : Heap} {L : Addr} {news : List (Addr × Obj)} (O : OwnOff own adr) (N : News h₀ L h news) (hn : ∀ p ∈ own2, h.get? p.1 = none) (ha : ∀ b ∈ adr, b ∈ news.map (·.1)) : OwnOff (own ++ own2) adr :=
  OwnOff.app O (OwnOff.new hn fun b hb => by obtain ⟨p, hp, rfl⟩ := List.mem_map.mp (ha b hb); exact ⟨_, (N p hp).1⟩)

theorem off6 {I deck x dx r o q : Nat} {a1 a2 a3 a4 a5 a6 : Obj} {own : List (Addr × Obj)} (h1 : @Ne Nat deck I) (h2 : @Ne Nat x I) (h3 : @Ne Nat dx I) (h4 : @Ne Nat r I) (h5 : @Ne Nat o I) (h6 : @Ne Nat q I) (ho : ∀ p ∈ own, p.1 ≠ I) :
    ∀ p ∈ (deck, a1) :: (x, a2) :: (dx, a3) :: (r, a4) :: (o, a5) :: (q, a6) :: own, p.1 ≠ I := by
  intro p hp
  simp only [List.mem_cons] at hp
  rcases hp with rfl | rfl | rfl | rfl | rfl | rfl | hp
  · exact h1
  · exact h2
  · exact h3
  · exact h4
  · exact h5
  · exact h6
  · exact ho p hp
theorem rows_next {α : Type} {rows : Ky → Option (Bd α)} {b : Bd α} {i : Nat} (b1 : ∀ j : Int, 97 + (i : Int) ≤ j → rows (.inl j) = none) : ∀ j : Int, 97 + ((i + 1 : Nat) : Int) ≤ j → (fun x => if x = (.inl (97 + (i : Int)) : Ky) then some b else rows x) (.inl j) = none := by
  intro j hj
  have q : ¬ (Sum.inl j : Ky) = .inl (97 + (i : Int)) := fun h => by cases h; omega
  simp only [q, if_false]
  exact b1 j (by omega)
theorem rows_str {α : Type} {rows : Ky → Option (Bd α)} {b : Bd α} {k : Int} (b2 : ∀ c, rows (.inr c) = none) : ∀ c, (fun x => if x = (.inl k : Ky) then some b else rows x) (.inr c) = none := by
  intro c
  simp [b2 c]
theorem stored_le {kvs : List (Ky × Value)} {k : Ky} {v : Value} {i : Nat} (h : kvs.length ≤ i) : (stored kvs k v).length ≤ i + 1 := Nat.le_trans (stored_length_le kvs k v) (Nat.succ_le_succ h)

theorem remap_told {α : Type} {w : World} {RK RO : Heap → Addr → α → Prop} {own : List (Addr × Obj)} {kvs kvs2 : List (Ky × Value)} {rows : Ky → Option (Bd α)} {a : α} {x2 dx2 r2 o2 q2 : Addr} {ro2 oo2 qo2 : Obj} {h1 h2 h3 h4 h5 : Int} {t1 t2 t3 t4 t5 tq : Tok} {bv : Value} {c : Option Str} (hc : VD bv c)
    (ha1 : ∀ h k, K1 w RE h k .none ⟨fun e => if e = (Sum.inr (PySem.Str.ofString "c0") : Ky) then some (bdOf c) else none, none⟩ → RK h k a) (ha2 : ∀ h o, O1 w RE h o .none ⟨fun e => if e = (Sum.inr (PySem.Str.ofString "c0") : Ky) then some (bdOf c) else none, none⟩ → RO h o a)
    (hro : ro2.IsDictOf (mix RP w) (stored [] (Sum.inr (PySem.Str.ofString "c0") : Ky) bv)) (hoo : oo2.IsDictOf (strKind RP w) (ownRows q2 .none .none)) (hqo : qo2.IsDictOf (strKind RP w) (stored [] (PySem.Str.ofString "c0") bv))
    (lr : (r2 == sysModules) = false) (lo : (o2 == sysModules) = false) (lq : (q2 == sysModules) = false) (T : Told own fun h => ∀ e, VO RK h (valueAt kvs e) (rows e) ∧ VO RO h (valueAt kvs2 e) (rows e)) :
    Told ((x2, instObj 122 dx2) :: (dx2, kmDict h1 h2 h3 h4 h5 t1 t2 t3 t4 t5 tq r2 false .none .none) :: (r2, ro2) :: (o2, oo2) :: (q2, qo2) :: own)
      fun h => ∀ e, VO RK h (valueAt (stored kvs (Sum.inr (PySem.Str.ofString "remap") : Ky) (.ref x2)) e) (if e = (Sum.inr (PySem.Str.ofString "remap") : Ky) then some (.sub a) else rows e) ∧ VO RO h (valueAt (stored kvs2 (Sum.inr (PySem.Str.ofString "remap") : Ky) (.ref o2)) e) (if e = (Sum.inr (PySem.Str.ofString "remap") : Ky) then some (.sub a) else rows e) := by
  refine mapJ_put (b := .sub a) (fun p hp => .tail _ (.tail _ (.tail _ (.tail _ (.tail _ hp))))) T ?_
  intro h hh
  have e1 : h.get? x2 = _ := hh _ (.head _)
  have e2 : h.get? dx2 = _ := hh _ (.tail _ (.head _))
  have e3 : h.get? r2 = _ := hh _ (.tail _ (.tail _ (.head _)))
  have e4 : h.get? o2 = _ := hh _ (.tail _ (.tail _ (.tail _ (.head _))))
  have e5 : h.get? q2 = _ := hh _ (.tail _ (.tail _ (.tail _ (.tail _ (.head _)))))
  have hv : ∀ e, VO RE h (valueAt (stored [] (Sum.inr (PySem.Str.ofString "c0") : Ky) bv) e) (if e = (Sum.inr (PySem.Str.ofString "c0") : Ky) then some (bdOf c) else none) := by
    intro e
    rw [valueAt_stored]
    by_cases q : e = (Sum.inr (PySem.Str.ofString "c0") : Ky)
    · rw [if_pos q, if_pos q]; exact vb_of hc
    · rw [if_neg q, if_neg q]; exact trivial
  exact ⟨ha1 h x2 (k1_mk (l := ⟨fun e => if e = (Sum.inr (PySem.Str.ofString "c0") : Ky) then some (bdOf c) else none, none⟩) e1 e2 e3 hro lr hv trivial), ha2 h o2 (o1_mk (l := ⟨fun e => if e = (Sum.inr (PySem.Str.ofString "c0") : Ky) then some (bdOf c) else none, none⟩) e4 hoo e5 (isdict_mix hqo) lo lq hv trivial)⟩

/-- how many are drawn -/
structure NumJ (deep : Bool) (n₀ n : Int) (i : Nat) : Prop where
  (lo : n₀ ≤ n) (hi : n ≤ n₀ + 12 * i) (flat : deep = false → n ≤ n₀ + 2 * i)
theorem NumJ.start {deep : Bool} {n₀ : Int} : NumJ deep n₀ n₀ 0 := ⟨by omega, by omega, fun _ => by omega⟩
theorem NumJ.one {deep : Bool} {n₀ n : Int} {i : Nat} (h : NumJ deep n₀ n i) : NumJ deep n₀ (n + 1) (i + 1) := ⟨by have := h.lo; omega, by have := h.hi; omega, fun d => by have := h.flat d; omega⟩
theorem NumJ.two {deep : Bool} {n₀ n : Int} {i : Nat} (h : NumJ deep n₀ n i) : NumJ deep n₀ (n + 1 + 1) (i + 1) := ⟨by have := h.lo; omega, by have := h.hi; omega, fun d => by have := h.flat d; omega⟩
theorem NumJ.sub {deep : Bool} {n₀ n n2 : Int} {i : Nat} (h : NumJ deep n₀ n i) (hd : deep = true) (h1 : n + 1 ≤ n2) (h2 : n2 ≤ n + 1 + 10) : NumJ deep n₀ n2 (i + 1) := ⟨by have := h.lo; omega, by have := h.hi; omega, fun d => by rw [hd] at d; cases d⟩
theorem NumJ.nn {deep : Bool} {n₀ n : Int} {i : Nat} (h : NumJ deep n₀ n i) (h0 : 0 ≤ n₀) : 0 ≤ n := Int.le_trans h0 h.lo
theorem NumJ.up {deep : Bool} {n₀ n b : Int} {i : Nat} (h : NumJ deep n₀ n i) (h0 : n₀ ≤ b) (h3 : i ≤ 3) : n ≤ b + 36 := by have := h.hi; omega
theorem NumJ.done {deep : Bool} {n₀ n : Int} (h : NumJ deep n₀ n 3) : n + 4 ≤ n₀ + (if deep = true then 50 else 10) := by
  by_cases q : deep = true
  · rw [if_pos q]; have := h.hi; omega
  · rw [if_neg q]; have := h.flat (by simpa using q); omega
theorem done2 {n n2 b : Int} (h : n + 4 ≤ b) (h2 : n2 ≤ n + 2) : n2 + 2 ≤ b := by omega
theorem done3 {n₀ n n2 : Int} (h : n₀ ≤ n) (h2 : n + 1 ≤ n2) : n₀ ≤ n2 := by omega
theorem done4 {n n2 b : Int} (h : n ≤ b) (h2 : n2 ≤ n + 2) : n2 ≤ b + 2 := by omega
theorem rows_skip {α : Type} {rows : Ky → Option (Bd α)} {i : Nat} (b1 : ∀ j : Int, 97 + (i : Int) ≤ j → rows (.inl j) = none) : ∀ j : Int, 97 + ((i + 1 : Nat) : Int) ≤ j → rows (.inl j) = none := fun j hj => b1 j (by omega)
inductive MapJ {α : Type} (w : World) (RK RO : Heap → Addr → α → Prop) (deck l0 x dx r o q : Addr) (kd oo : Obj) (deep : Bool) (n₀ : Int) (i : Nat) (m : Str → Option Value) (news : List (Addr × Obj)) : Prop
  | mk (n : Int) (t : Tok) (e : Nat) (ro qo : Obj) (kvs kvs2 : List (Ky × Value)) (own : List (Addr × Obj)) (rows : Ky → Option (Bd α))
    (a1 : news = (deck, PySem.W.listOf #[.ref l0, .int n t] e) :: (x, instObj 122 dx) :: (dx, kd) :: (r, ro) :: (o, oo) :: (q, qo) :: own) (a2 : NumJ deep n₀ n i) (a4 : ro.IsDictOf (mix RP w) kvs) (a5 : qo.IsDictOf (mix RP w) kvs2)
    (a6 : kvs.length ≤ i) (a7 : kvs2.length ≤ i) (a8 : OwnOff own [deck, x, dx, r, o, q]) (a9 : Told own fun h => ∀ e, VO RK h (valueAt kvs e) (rows e) ∧ VO RO h (valueAt kvs2 e) (rows e))
    (b1 : ∀ j : Int, 97 + i ≤ j → rows (.inl j) = none) (b2 : ∀ c, rows (.inr c) = none)
    (b3 : m (PySem.Str.ofString "deck") = some (.ref deck)) (b4 : m (PySem.Str.ofString "deep") = some (.bool deep)) (b5 : m (PySem.Str.ofString "keymap") = some (.ref x)) (b6 : m (PySem.Str.ofString "own") = some (.ref o))

/-- the map that runs another command in the place of c0 -/
noncomputable def SubM {α : Type} (w : World) (RK RO : Heap → Addr → α → Prop) : Prop := ∀ c : Option Str, ∃ a : α,
  (∀ h k, K1 w RE h k .none ⟨fun e => if e = .inr (PySem.Str.ofString "c0") then some (bdOf c) else none, none⟩ → RK h k a) ∧ (∀ h o, O1 w RE h o .none ⟨fun e => if e = .inr (PySem.Str.ofString "c0") then some (bdOf c) else none, none⟩ → RO h o a)

inductive MapS (w : World) (s : Shared) (g : Heap) (L' deck l0 x dx r o q : Addr) (h1 h2 h3 h4 h5 : Int) (t1 t2 t3 t4 t5 tq : Tok) (deep : Bool) (n₁ : Int) (ro qo : Obj) (own : List (Addr × Obj)) (s' : Shared) : Prop
  | mk (n2 : Int) (t2' : Tok) (e2 : Nat) (o2 : Obj) (dv : Value) (df : Option Str) (h' : Heap) (tk' : Nat) (m' : Str → Option Value) (eq : s' = { s with heap := h', toks := tk' }) (F : Fr g L' h' m') (d3 : m' (PySem.Str.ofString "deck") = some (.ref deck)) (d4 : m' (PySem.Str.ofString "deep") = some (.bool deep)) (d5 : m' (PySem.Str.ofString "keymap") = some (.ref x)) (d6 : m' (PySem.Str.ofString "own") = some (.ref o))
    (N : News g L' h' ((deck, PySem.W.listOf #[.ref l0, .int n2 t2'] e2) :: (x, instObj 122 dx) :: (dx, kmDict h1 h2 h3 h4 h5 t1 t2 t3 t4 t5 tq r df.isSome dv .none) :: (r, ro) :: (o, o2) :: (q, qo) :: own)) (ho : o2.IsDictOf (PySem.strKind RP w) (ownRows q dv .none)) (hv : VD dv df) (c1 : n₁ + 1 ≤ n2) (c2 : n2 ≤ n₁ + 2)

theorem map_code {α : Type} {RK RO : Heap → Addr → α → Prop} {w : World} {A : Around} {s : Shared} {R : Result → Shared → Prop} {deck l0 e : Nat} {n : Int} {t : Tok} {vs : List Value} {ns : List Int} {deep : Bool} {nd : Nat} (hnd : 8 ≤ nd) (hdd : deep = true → 9 ≤ nd)
    (C : Rdy w A (nd + 1) s.heap [(deck, PySem.W.listOf #[.ref l0, .int n t] e)]) (hc : deep = true → SubC w RK RO) (hm : deep = true → SubM w RK RO) (hl : s.heap.IsList l0 vs.toArray) (hi : IntsAre vs ns) (hlen : ns.length ≤ 63) (hne : l0 ≠ deck) (hn0 : 0 ≤ n) (hn1 : n ≤ 900) (hn2 : deep = true → n ≤ 800)
    (ret : MapRet w RK RO R s deck l0 n (if deep = true then 50 else 10)) :
    codeAny (model RP w) A (.call (.ref 252) ⟨[.ref deck, .bool deep], []⟩) R s := by
  refine' enter (n := nd) (fun p => defAt p 34) (binds := [(PySem.Str.ofString "deck", .ref deck), (PySem.Str.ofString "deep", .bool deep)]) (PySem.Str.ofString "_law_map") C ?ho ?h1 ?h2 ?hq ?hcd ?hbind ?hloc ?hco ?hgen ?hk ?hcell ?_
  k_extra "my_enter"
  intro A₁ g L' h₁ tk mean mg mb hg Rd F N X T
  have hlg : g.IsList l0 vs.toArray := by
    obtain ⟨o, ho, r⟩ := hl
    exact ⟨o, by rw [hg]; exact hideAll_get _ ho (by simpa using hne), r⟩
  clear C
  obtain ⟨ah, dp, ev, gd, un⟩ := A₁
  obtain rfl : ah = none := (Rd _ _ _ F N).handled
  k_steps
  rename_i o h6 u1 lo6 u2 l8 q h7 qo lo7 hq7 u3 u4 u5 l9 h8 oo hoo5 D h9 l10 u6 u7 h10 F5 N5
  have r5 := True.intro
  rename_i r
  have dx5 := True.intro
  rename_i dx
  have x5 := True.intro
  rename_i x
  clear x5 dx5 r5
  have hoo : Obj.IsDictOf (PySem.strKind RP w) oo [(PySem.Str.ofString "rows", .ref q), (PySem.Str.ofString "default", .none), (PySem.Str.ofString "parent", .none)] := hoo5
  have hqo := isdict_nil hq7
  clear hoo5 hq7
  have lor := lo5
  refine For_invV g rfl rfl ?_ (by intro _; with_unfolding_all rfl)
  k_steps
  rename_i Dt ht F6 N6 l11
  refine Stop.go (loop_tup (MapJ w RK RO deck l0 x dx r o q (kmDict hA5 hB5 hC5 hD5 hE5 tA5 tB5 tC5 tD5 tE5 tF5 r false Value.none Value.none) oo deep n) rfl F6 N6 (.head _) rfl rfl
    (news := [(deck, PySem.W.listOf #[Value.ref l0, Value.int n t] e), (x, instObj 122 dx), (dx, kmDict hA5 hB5 hC5 hD5 hE5 tA5 tB5 tC5 tD5 tE5 tF5 r false Value.none Value.none), (r, ro5), (o, oo), (q, qo)]) ?sub ?start ?turn ?done)
  case sub =>
    intro p hp
    simp only [List.mem_cons, List.not_mem_nil, or_false] at hp ⊢
    rcases hp with rfl | rfl | rfl | rfl | rfl | rfl <;> simp
  case start =>
    exact .mk n t e ro5 qo [] [] [] (fun _ => none) rfl .start hd5 hqo (by simp) (by simp) (fun _ h => nomatch h) (fun h _ e => ⟨trivial, trivial⟩) (fun _ _ => rfl) (fun _ => rfl) rfl rfl rfl rfl
  case turn =>
    intro i v m₁ news₁ h11 tk11 it ot hv hJ hoff F7 N7
    obtain ⟨n₁, t₁, e₁, ro, qo, kvs, kvs2, own, rows, rfl, a2, a4, a5, a6, a7, a8, a9, b1, b2, b3, b4, b5, b6⟩ := hJ
    obtain ⟨I, oI⟩ := it
    rw [m_at b3, m_at b4, m_at b5, m_at b6] at F7
    obtain ⟨tt, hi3, rfl⟩ := item3 hv
    have hI1 : @Ne Nat deck I := hoff _ (.head _)
    have hI2 : @Ne Nat x I := hoff _ (.tail _ (.head _))
    have hI3 : @Ne Nat dx I := hoff _ (.tail _ (.tail _ (.head _)))
    have hI4 : @Ne Nat r I := hoff _ (.tail _ (.tail _ (.tail _ (.head _))))
    have hI5 : @Ne Nat o I := hoff _ (.tail _ (.tail _ (.tail _ (.tail _ (.head _)))))
    have hI6 : @Ne Nat q I := hoff _ (.tail _ (.tail _ (.tail _ (.tail _ (.tail _ (.head _))))))
    have hnone : valueAt kvs2 (.inl (97 + (i : Int))) = none := by
      have h1 := (a9.at N7 (fun p hp => by simp [hp]) (.inl (97 + (i : Int)))).2
      rw [b1 _ (by omega)] at h1
      exact vo_none h1
    have hoffo : ∀ p ∈ own, p.1 ≠ I := fun p hp => hoff _ (.tail _ (.tail _ (.tail _ (.tail _ (.tail _ (.tail _ hp))))))
    clear F6 N6 hd5 hqo hv hoff
    have hzk : kvs.length ≤ sizeLine := by rw [sizeLine_eq]; omega
    have hzq : kvs2.length ≤ sizeLine := by rw [sizeLine_eq]; omega
    have z0 := a2.nn hn0
    have z1 := a2.up hn1 (Nat.le_of_lt hi3)
    k_unmd; try k_fold
    k_steps
    rotate_left
    · with_reducible rename Fr _ _ _ _ => F9
      with_reducible rename News _ _ _ _ => N9
      exact TupEnd.mk F9 N9 (fun p hp => hp) (off6 hI1 hI2 hI3 hI4 hI5 hI6 hoffo) (.mk (n₁ + 1) t5 e5 ro qo kvs kvs2 own rows rfl a2.one a4 a5 (Nat.le_succ_of_le a6) (Nat.le_succ_of_le a7) a8 a9 (rows_skip b1) b2 rfl rfl rfl rfl)
    · with_reducible rename Fr _ _ _ _ => F9
      with_reducible rename News _ _ _ _ => N9
      exact TupEnd.mk F9 N9 (fun p hp => .tail _ hp) (off6 hI1 hI2 hI3 hI4 hI5 hI6 hoffo) (.mk (n₁ + 1 + 1) t5 e5 ro5 o8 _ _ own _ rfl a2.two hd5 hd8 (stored_le a6) (stored_le a7) a8 (mapJ_put (b := bdOf c5) (fun _ h => h) a9 (fun h _ => ⟨vb_of hc5, vb_of hc5⟩)) (rows_next b1) (rows_str b2) rfl rfl rfl rfl)
    · with_reducible rename Fr _ _ _ _ => F9
      with_reducible rename News _ _ _ _ => N9
      exact TupEnd.mk F9 N9 (fun p hp => hp) (off6 hI1 hI2 hI3 hI4 hI5 hI6 hoffo) (.mk (n₁ + 1) t5 e5 ro qo kvs kvs2 own rows rfl a2.one a4 a5 (Nat.le_succ_of_le a6) (Nat.le_succ_of_le a7) a8 a9 (rows_skip b1) b2 rfl rfl rfl rfl)
    · rename deep = true => hdeep
      with_reducible rename Fr _ _ _ _ => F9
      with_reducible rename News _ _ _ _ => N9
      refine Stop.go ?_
      refine' sub_here (n := n₁ + 1) (e := e5) (t := t5) (hc hdeep) F9 N9 ?myU Rd (hdd hdeep) (Fr.lst F9 hlg) hi hlen hne (nn1 z0) (up1 (a2.up (hn2 hdeep) (Nat.le_of_lt hi3)) (by decide)) ?_
      case myU => k_updF
      intro h12 tk12 tp nt k' o' own2 a' n2 t2 e2 F10 N10 l12 l13 htp hnew T2
      have u1 : @Ne Nat q tp := new_apart N9 (o := qo) (by k_mem) htp
      have u2 : @Ne Nat r tp := new_apart N9 (o := ro) (by k_mem) htp
      have a8' := OwnOff.both a8 N9 hnew (by simp)
      have hoffo' : ∀ p ∈ own ++ own2, p.1 ≠ I := OwnOff.ne (OwnOff.both (adr := [I]) (fun p hp b hb => by rw [List.mem_singleton.mp hb]; exact hoffo p hp) N9 hnew (by simp)) (by simp)
      simp only [List.cons_append] at N10
      clear N9 F9
      k_steps
      with_reducible rename Fr _ _ _ _ => F9
      with_reducible rename News _ _ _ _ => N9
      exact TupEnd.mk F9 N9 (fun p hp => .tail _ hp) (off6 hI1 hI2 hI3 hI4 hI5 hI6 hoffo') (.mk n2 t2 e2 ro5 o8 _ _ (own ++ own2) _ rfl (a2.sub hdeep l12 l13) hd5 hd8 (stored_le a6) (stored_le a7) a8' (mapJ_put (b := .sub a') (fun _ h => List.mem_append_left _ h) a9 (T2.weak fun _ h => List.mem_append_right _ h)) (rows_next b1) (rows_str b2) rfl rfl rfl rfl)
  case done =>
    intro m₁ news₁ h11 tk11 hJ F7 N7
    obtain ⟨n₁, t₁, e₁, ro, qo, kvs, kvs2, own, rows, rfl, a2, a4, a5, a6, a7, a8, a9, b1, b2, b3, b4, b5, b6⟩ := hJ
    have a2 : NumJ deep n n₁ 3 := a2
    have z0 := a2.nn hn0
    have z1 := a2.up hn1 (Nat.le_refl 3)
    have a6 : kvs.length ≤ 3 := a6
    have a7 : kvs2.length ≤ 3 := a7
    rw [m_at b3, m_at b4, m_at b5, m_at b6] at F7
    have aO : OwnOff own [deck, dx, o] := fun p hp => fa_cons (a8 p hp _ (.head _)) (fa_cons (a8 p hp _ (.tail _ (.tail _ (.head _)))) (fa_cons (a8 p hp _ (.tail _ (.tail _ (.tail _ (.tail _ (.head _)))))) fa_nil))
    clear hd5 hqo
    refine cut (MapS w s g L' deck l0 x dx r o q hA5 hB5 hC5 hD5 hE5 tA5 tB5 tC5 tD5 tE5 tF5 deep n₁ ro qo own) ?st ?rest
    case st =>
      k_steps
      · with_reducible rename Fr _ _ _ _ => F9
        with_reducible rename News _ _ _ _ => N9
        with_reducible rename Obj.IsDictOf (PySem.strKind RP w) _ (ownRows _ (Value.str _ _) _) => hs9
        exact CutF.mk (.mk (n₁ + 1 + 1) t5 e5 o8 _ (some _) _ _ _ rfl F9 rfl rfl rfl rfl N9 hs9 rfl (le1 (Int.le_refl _)) (by omega))
      · exact CutF.mk (.mk (n₁ + 1) t5 e5 oo _ none _ _ _ rfl F5 rfl rfl rfl rfl N5 hoo trivial (Int.le_refl _) (by omega))
    case rest =>
      rintro s' ⟨n2, t2, e2, o2, dv, df, h12, tk12, m2, rfl, F8, d3, d4, d5, d6, N8, hs9, hvd, c1, c2⟩
      rw [m_at d3, m_at d4, m_at d5, m_at d6] at F8
      clear F7 N7 hoo
      have e1 := done3 a2.lo c1
      have e2' := done2 a2.done c2
      have y0 := a2.nn hn0
      have y0 := done3 y0 c1
      have y1 := done4 z1 c2
      clear c1 c2 z0 z1
      k_steps
      · have aN : OwnOff own [x5, dx5, r5] := allLt_off l5.2.2.2.2.2.2 (fa_cons (by omega) (fa_cons (by omega) (fa_cons (by omega) fa_nil)))
        have aM := OwnOff.more a8 aN
        simp only [List.cons_append, List.nil_append] at aM
        k_steps
        with_reducible rename Fr _ _ _ _ => F9
        with_reducible rename News _ _ _ _ => N9
        rename Obj.IsDictOf (mix RP w) _ (stored [] _ _) => hro2
        rename Obj.IsDictOf (PySem.strKind RP w) _ (strPairs _) => hoo2
        rename Obj.IsDictOf (PySem.strKind RP w) _ (stored [] _ _) => hqo2
        obtain ⟨a, ha1, ha2⟩ := hm (by assumption) c5
        exact map_fin (k := x) (dx := dx) (r := r) (o := o) (q := q) (s := s) (R := R) (n := n) (c := if deep = true then 50 else 10) (df := df) (n' := n2 + 1 + 1) ret hg F9 N9 (by k_mem) (.head _) (by k_mem) (by k_mem) (by k_mem) (by k_mem) (by k_mem) (by
          (repeat refine subs_cons (by k_mem) ?_); (repeat (first | exact subs_refl | refine subs_tail ?_))) (le1 (le1 e1)) (end2 e2') (by first | k_extra "my_pj" | omega) (by first | k_extra "my_pj" | omega) (by first | k_extra "my_pj" | omega) (by first | k_extra "my_pj" | omega) (by first | k_extra "my_pj" | omega) (fa_cons (fa_cons (by k_ne) (fa_cons (by k_ne) (fa_cons (by k_ne) fa_nil))) (fa_cons (fa_cons (by k_ne) (fa_cons (by k_ne) (fa_cons (by k_ne) fa_nil))) (fa_cons (fa_cons (by k_ne) (fa_cons (by k_ne) (fa_cons (by k_ne) fa_nil))) (fa_cons (fa_cons (by k_ne) (fa_cons (by k_ne) (fa_cons (by k_ne) fa_nil))) (fa_cons (fa_cons (by k_ne) (fa_cons (by k_ne) (fa_cons (by k_ne) fa_nil))) aO))))) hd5 hd8 hs9 lor lo6 lo7 (remap_told hc5 ha1 ha2 hro2 hoo2 hqo2 (by assumption) (by assumption) (by assumption) a9) hvd rfl
      · with_reducible rename Fr _ _ _ _ => F9
        with_reducible rename News _ _ _ _ => N9
        exact map_fin (k := x) (dx := dx) (r := r) (o := o) (q := q) (s := s) (R := R) (n := n) (c := if deep = true then 50 else 10) (df := df) (n' := n2 + 1) ret hg F9 N9 (by k_mem) (.head _) (by k_mem) (by k_mem) (by k_mem) (by k_mem) (by k_mem) (own := own) (by repeat (first | exact subs_refl | refine subs_tail ?_)) (le1 e1) (end1 e2') (by first | k_extra "my_pj" | omega) (by first | k_extra "my_pj" | omega) (by first | k_extra "my_pj" | omega) (by first | k_extra "my_pj" | omega) (by first | k_extra "my_pj" | omega) aO a4 a5 hs9 lor lo6 lo7 a9 hvd rfl
      · with_reducible rename Fr _ _ _ _ => F9
        with_reducible rename News _ _ _ _ => N9
        exact map_fin (k := x) (dx := dx) (r := r) (o := o) (q := q) (s := s) (R := R) (n := n) (c := if deep = true then 50 else 10) (df := df) (n' := n2) ret hg F9 N9 (by k_mem) (.head _) (by k_mem) (by k_mem) (by k_mem) (by k_mem) (by k_mem) (own := own) (by repeat (first | exact subs_refl | refine subs_tail ?_)) e1 (end0 e2') (by first | k_extra "my_pj" | omega) (by first | k_extra "my_pj" | omega) (by first | k_extra "my_pj" | omega) (by first | k_extra "my_pj" | omega) (by first | k_extra "my_pj" | omega) aO a4 a5 hs9 lor lo6 lo7 a9 hvd rfl
theorem map0_code {w : World} : SubC w (KC w RE) (OC w RE) := by
  intro A s R deck l0 e n t vs ns C hl hi hlen hne hn0 hn1 ret
  refine map_code (RK := RE) (RO := RE) (deep := false) (nd := 8) (Nat.le_refl _) (fun h => nomatch h) C (fun h => nomatch h) (fun h => nomatch h) hl hi hlen hne hn0 hn1 (fun h => nomatch h) ?_
  intro h' tk' tp nt k dx r o q oo rest l dv h1 h2 h3 h4 h5 t1 t2 t3 t4 t5 tq n' t' e' kp hd l1 l2 hn O hne2 hk hoo lo T1 T2
  refine ret h' tk' tp nt k o ((dx, kmDict h1 h2 h3 h4 h5 t1 t2 t3 t4 t5 tq r l.dflt.isSome dv .none) :: (o, oo) :: rest) [l] n' t' e' kp hd l1 l2 hn ?_
  intro h hh
  have hr : ∀ p ∈ rest, h.get? p.1 = some p.2 := fun p hp => hh p (.tail _ (.tail _ hp))
  exact ⟨T1 h hr .none (hh _ (.head _)), T2 h hr .none oo hoo (hh _ (.tail _ (.head _)))⟩
theorem subM1 {w : World} : SubM w (KC w RE) (OC w RE) := fun c => ⟨[⟨fun e => if e = .inr (PySem.Str.ofString "c0") then some (bdOf c) else none, none⟩], fun _ _ h => h, fun _ _ h => h⟩

theorem map1_code {w : World} {A : Around} {s : Shared} {R : Result → Shared → Prop} {deck l0 e : Nat} {n : Int} {t : Tok} {vs : List Value} {ns : List Int}
    (C : Rdy w A 12 s.heap [(deck, PySem.W.listOf #[.ref l0, .int n t] e)]) (hl : s.heap.IsList l0 vs.toArray) (hi : IntsAre vs ns) (hlen : ns.length ≤ 63) (hne : l0 ≠ deck) (hn0 : 0 ≤ n) (hn1 : n ≤ 800)
    (ret : MapRet w (KC w RE) (OC w RE) R s deck l0 n 50) :
    codeAny (model RP w) A (.call (.ref 252) ⟨[.ref deck, .bool true], []⟩) R s :=
  map_code (RK := KC w RE) (RO := OC w RE) (deep := true) (nd := 11) (by decide) (fun _ => by decide) C (fun _ => map0_code) (fun _ => subM1) hl hi hlen hne hn0 (by omega) (fun _ => hn1) ret
theorem keep_hides {g₀ g h : Heap} {news : List (Addr × Obj)} (k : Keep [] g₀ h) (hn : ∀ p ∈ news, g₀.get? p.1 = none) (hg : g = hideAll h (news.map (·.1))) : Keep [] g₀ g := fun b o' _ e => by
  rw [hg]
  refine hideAll_get _ (k.all _ _ e) (fun q => ?_)
  obtain ⟨p, hp, rfl⟩ := List.mem_map.mp q
  rw [hn p hp] at e; cases e

theorem setpar_code {α : Type} {RR : Heap → Addr → α → Prop} {w : World} {A : Around} {s : Shared} {R : Result → Shared → Prop} {x dx r k4 : Addr} {h1 h2 h3 h4 h5 : Int} {t1 t2 t3 t4 t5 tp : Tok} {b : Bool} {dv pv : Value} {ch : Ch α}
    (C : Rdy w A 5 s.heap [(x, instObj 122 dx), (dx, kmDict h1 h2 h3 h4 h5 t1 t2 t3 t4 t5 tp r b dv pv)]) {g₀ : Heap} (hg₀ : Keep [] g₀ s.heap) (hn : ∀ p ∈ [(x, instObj 122 dx), (dx, kmDict h1 h2 h3 h4 h5 t1 t2 t3 t4 t5 tp r b dv pv)], g₀.get? p.1 = none)
    (hk : KC w RR g₀ k4 ch) (hlt : @Ne Nat dx x)
    (ret : ∀ (h' : Heap) (tk' : Nat), Keep [dx] s.heap h' → h'.get? dx = some (kmDict h1 h2 h3 h4 h5 t1 t2 t3 t4 t5 tp r b dv (.ref k4)) → R (.ok (.ret .none)) { s with heap := h', toks := tk' }) :
    codeAny (model RP w) A (.call (.ref 145) ⟨[.ref x, .ref k4], []⟩) R s := by
  have hx0 : s.heap.get? x = some (instObj 122 dx) := C.at (p := (x, instObj 122 dx)) (.head _)
  have hx1 : s.heap.get? dx = some (kmDict h1 h2 h3 h4 h5 t1 t2 t3 t4 t5 tp r b dv pv) := C.at (p := (dx, kmDict h1 h2 h3 h4 h5 t1 t2 t3 t4 t5 tp r b dv pv)) (.tail _ (.head _))
  have hgx : g₀.get? x = none := hn _ (.head _)
  refine' enterC (n := 4) (fun p => defAt p 14) (binds := [(PySem.Str.ofString "keymap", .ref x), (PySem.Str.ofString "parent", .ref k4)]) (PySem.Str.ofString "set_parent") C ?ho ?h1 ?h2 ?hq ?hcd ?hbind ?hkind ?hnd ?hco ?hgen ?hk ?_
  k_extra "my_enterC"
  intro A₁ g L' h₁ tk cells mean mg mb hg Rd F N Y X T
  replace hg₀ := keep_hides hg₀ hn hg
  clear C
  obtain ⟨ah, dp, ev, gd, un⟩ := A₁
  obtain rfl : ah = none := (Rd _ _ _ F N).handled
  obtain ⟨oc, rfl, hc⟩ := CellsAre.one Y
  simp only [List.cons_append, List.nil_append] at N
  k_steps
  refine Stop.go ?_
  k_unmd; try k_fold
  refine comp_J (cl := [(PySem.Str.ofString "keymap", L' + 1)]) ?hclos ?hcell ?hkind ?hnames ?hx ?hs ?_
  case hclos => with_unfolding_all rfl
  case hcell => decide
  case hkind => exact rfl
  case hnames => decide
  case hx => exact rfl
  case hs => intro _; with_unfolding_all rfl
  k_steps
  try refine Stop.go ?_
  refine Blk.list (Rd _ _ _ F N).handled [] (fun _ ys _ => ys = []) hl5 (fits' (KC.len hk) (Refs.length hR5)) (fun _ h => nomatch h) (fun h => nomatch h) (fun _ _ _ _ j _ => j) rfl ?turn ?done
  case turn =>
    intro i vx ys h6 tk6 m6 E6 hv6 hj6 hn6 hm6 kp6
    obtain ⟨a, l, rfl, hl6, pv', dx', r', hh1, hh2, hh3, hh4, hh5', tt1, tt2, tt3, tt4, tt5, ttp, dv', f, a1, a2, a3, a4, a5, a6⟩ := Refs.get hR5 (by simpa using hv6)
    have hax : @Ne Nat a x := fun q => by
      have q : a = x := q
      rw [q, hgx] at a1; cases a1
    have F6 := Keep.fr kp6 F5
    have hc6 : h6.IsCell (L' + 1) (some (.ref x)) := ⟨oc, kp6.all _ _ (News.get N5 (.tail _ (.head _))), hc⟩
    have kt : Keep [] h6 h6 := Keep.refl _ _
    k_unmd; try k_fold
    refine tests_one ?_
    k_steps
    refine kto_is (F6.keep _ _ (hg₀.all _ _ a1)) (kp6.all _ _ (News.get N5 (.tail _ (.tail _ (.head _))))) hax (by simp) ?_
    k_steps
    exact TEnd.mk kt hj6
  case done =>
    intro h6 tk6 ys ep6 hl6 hle6 hj6 kp6
    subst hj6
    have F6 := Keep.fr kp6 F5
    have hD : h5.get? (h5.objs.size + 1) = none := by
      cases q : h5.get? (h5.objs.size + 1) with
      | none => rfl
      | some o => exact absurd (nlt q) (by omega)
    have u1 : @Ne Nat dx l5 := News.cls_ne N5 (.tail _ (.tail _ (.tail _ (.head _)))) (.head _) (by simp)
    have u2 : @LT.lt Nat _ dx h5.objs.size := nlt (N5.get (o := kmDict h1 h2 h3 h4 _ t1 t2 t3 t4 t5 tp r b dv pv) (.tail _ (.tail _ (.tail _ (.head _)))))
    have u3 : @LE.le Nat _ s.heap.objs.size L' := by
      have := F5.above
      rw [hg, hideAll_size] at this
      exact this
    have u4 : @LT.lt Nat _ dx s.heap.objs.size := nlt hx1
    have N6 := Keep.add kp6 F5 N5 hl6 hD
    k_steps
    try dsimp only
    with_reducible rename Fr _ _ _ _ => F9
    with_reducible rename News _ _ _ _ => N9
    have hk : Keep [dx] s.heap _ := fun b o hb e => by
      by_cases q : b = x
      · rw [q] at e ⊢
        rw [hx0] at e
        cases e
        exact N9.get (by k_mem)
      · exact keep_of_fr hg F9 b o (by simpa using ⟨q, by simpa using hb⟩) e
    exact ret _ _ hk (N9.get (by k_mem))
theorem compLoop_T {w : World} {A : Around} {elt target iter : Expr} {ifs : List Expr} {scope : Scope} {pos : Pos} {it acc : Value} {env : Env} {R : Result → Shared → Prop} {s : Shared} (I : Nat → Shared → Prop)
    (turn : ∀ n s, I n s → wpAny (model RP w) A (pyNext it) (fun r s₁ => match r with
      | none => R (.ok .next) s₁
      | some v => wpAny (model RP w) A (letOwnedTupleGo target it v) (fun _ s₁' => wpAny (model RP w) A (assign target env v) (fun _ s₂ =>
          wpAny (model RP w) A (forIn ifs true fun c r => if r = true then do let ok ← isTrue c env (eval c env); pure (ForInStep.yield ok) else pure (ForInStep.yield r)) (fun ok s₃ =>
            if ok = true then wpAny (model RP w) A (eval elt env) (fun x s₄ =>
              wpAny (model RP w) A (call (.builtin "list.append") [acc, x]) (fun _ s₅ => ∃ m, m < n ∧ I m s₅) (notedBy (model RP w) A env fun e s' => R (.error e) s') s₄) (notedBy (model RP w) A env fun e s' => R (.error e) s') s₃
            else ∃ m, m < n ∧ I m s₃) (notedBy (model RP w) A env fun e s' => R (.error e) s') s₂) (notedBy (model RP w) A env fun e s' => R (.error e) s') s₁') (notedBy (model RP w) A env fun e s' => R (.error e) s') s₁) (notedBy (model RP w) A env fun e s' => R (.error e) s') s)
    (n : Nat) (h : I n s) : codeAny (model RP w) A (.compLoop (.ListComp elt [⟨target, iter, ifs, 0⟩] scope pos) 0 it acc env) R s := by
  refine codeAny_loop rfl I (fun n s hI => ?_) n h
  show wpAny _ A ((compTurn (.ListComp elt [⟨target, iter, ifs, 0⟩] scope pos) 0 it acc env).onRaise (fun x => do noteFrame x env; theTreesLotGoes x)) _ _ s
  refine wpAny_noted ?_
  rw [compTurn_list]
  refine wpAny_bind (wpAny_standAt (wpAny_bind (wpAny_mono (turn n s hI) (fun r s₁ h₁ => ?_) fun _ _ h' => h')))
  cases r with
  | none => exact wpAny_pure h₁
  | some v =>
    refine wpAny_bind (wpAny_mono h₁ (fun _ s₁' h₁' => ?_) fun _ _ h' => h')
    refine wpAny_bind (wpAny_mono h₁' (fun _ s₂ h₂ => wpAny_bind (wpAny_mono h₂ (fun ok s₃ h₃ => ?_) fun _ _ h' => h')) fun _ _ h' => h')
    cases ok with
    | false => exact wpAny_pure ⟨rfl, h₃⟩
    | true =>
      exact wpAny_bind (wpAny_bind (wpAny_mono h₃ (fun x s₄ h₄ => wpAny_bind (wpAny_mono h₄ (fun _ s₅ h₅ => wpAny_pure (wpAny_pure ⟨rfl, h₅⟩)) fun _ _ h' => h')) fun _ _ h' => h'))

/-- a comprehension over pairs by what holds between its turns; a turn writes nothing -/
structure CompTJ (w : World) (A : Around) (env : Env) (scope : Scope) (cl : List (Str × Addr)) (x x2 : Str) (ifs : List Expr) (elt : Expr) (wr : List Addr) (n : Nat) (Pt : Nat → Array Value → Prop)
    (J : Nat → List Value → Prop) (s₂ : Shared) : Prop where
  pair : ∀ i vals, Pt i vals → ∃ u v, vals = #[u, v]
  start : J 0 []
  turn : ∀ i u v ys h tk m₃ E', i < n → Pt i #[u, v] → J i ys → h.Ns (s₂.heap.objs.size + 1) m₃ → m₃ x = some u → m₃ x2 = some v → (∀ b o, b ∉ wr → s₂.heap.get? b = some o → h.get? b = some o) →
    wpAny (model RP w) A (forIn ifs true fun c r => if r = true then do let ok ← isTrue c (compEnvC scope cl (s₂.heap.objs.size + 1) env) (eval c (compEnvC scope cl (s₂.heap.objs.size + 1) env)); pure (ForInStep.yield ok) else pure (ForInStep.yield r))
      (fun ok s₄ => if ok = true then
          wpAny (model RP w) A (eval elt (compEnvC scope cl (s₂.heap.objs.size + 1) env)) (fun y s₅ => TEnd s₂ [] h (fun _ => J (i + 1) (ys ++ [y])) s₅) E' s₄
        else TEnd s₂ [] h (fun _ => J (i + 1) ys) s₄) E' { s₂ with heap := h, toks := tk }

theorem comp_block_T {w : World} {A : Around} {E : Value → Shared → Prop} {env : Env} {elt iter : Expr} {x x2 : Str} {px px2 tp : Pos} {k : Nat} {ifs : List Expr} {scope : Scope} {cl : List (Str × Addr)} {pos : Pos} {s₂ : Shared} {I : Addr} {fp wr : List Addr} {n : Nat} {Pt : Nat → Array Value → Prop}
    {St : Nat → Heap → Prop} {Mid : Nat → Addr → Heap → Prop} {J : Nat → List Value → Prop} {RR : Value → Addr → Result → Shared → Prop} (hh : A.handled = none) (Wk : WalksU RP w A I fp wr n Pt St Mid) (hsz : n ≤ sizeLine)
    (hcell : ∀ y ∈ scope.names, y.2 ≠ .cell) (hkind : scope.kind = .function) (hx : scope.names.lookup x = some .local) (hx2 : scope.names.lookup x2 = some .local) (hxx : x ≠ x2) (hst : St 0 s₂.heap) (hfp : ∀ b ∈ fp, b < s₂.heap.objs.size)
    (hq : CompTJ w A env scope cl x x2 ifs elt wr n Pt J s₂)
    (hRR : ∀ h' tk m' (ys : List Value) ep, h'.Ns (s₂.heap.objs.size + 1) m' → h'.get? s₂.heap.objs.size = some (PySem.W.listOf ys.toArray ep) → ys.length ≤ n → J n ys →
      (∀ b o, b ∉ wr → s₂.heap.get? b = some o → h'.get? b = some o) → RR (.ref s₂.heap.objs.size) (s₂.heap.objs.size + 1) (.ok .next) { s₂ with heap := h', toks := tk }) :
    wpAny (model RP w) A (newList []) (fun acc s₃ => wpAny (model RP w) A (newFunctionEnv scope env.globals cl [] env.qual none .none (some env)) (fun cenv s₄ =>
      codeAny (model RP w) A (.compStart (.ListComp elt [⟨.Tuple [.Name x px, .Name x2 px2] k tp, iter, ifs, 0⟩] scope pos) 0 (.ref I) acc { cenv with scope := relabel scope env }) (RR acc cenv.locals) s₄) E s₃) E s₂ := by
  refine wpAny_newObj_type (wpAny_newFunctionEnv hcell (by intro y hy; simp at hy) (fun h₁ hns₁ hsb₁ => ?_) hkind)
  dsimp only at hns₁ hsb₁ ⊢
  generalize hH2 : s₂.heap.push { cls := .type "list", dict := none, data := .seq ([] : List Value).toArray } = H2 at hns₁ hsb₁ ⊢
  have hC : H2.objs.size = s₂.heap.objs.size + 1 := by rw [← hH2, Heap.size_push]
  rw [hC] at hns₁ hsb₁
  have old : ∀ b o, s₂.heap.get? b = some o → h₁.get? b = some o := fun b o e => hsb₁.extBut b o (by have := nlt e; exact neN (by omega)) (Heap.get?_push_of_some _ (hH2 ▸ Heap.get?_push_of_some _ e))
  have hacc : h₁.get? s₂.heap.objs.size = some (PySem.W.listOf ([] : List Value).toArray 0) := hsb₁.extBut _ _ (neN (by omega)) (Heap.get?_push_of_some _ (hH2 ▸ Heap.get?_push_size _ rfl))
  have hst₁ : St 0 h₁ := Wk.frame _ _ _ hst fun b _ o e => old b o e
  have loop : ∀ s₃ : Shared, s₃ = { s₂ with heap := h₁, toks := s₂.toks + ([] : List (Str × Value)).length } →
      codeAny (model RP w) A (.compLoop (.ListComp elt [⟨.Tuple [.Name x px, .Name x2 px2] k tp, iter, ifs, 0⟩] scope pos) 0 (.ref I) (.ref s₂.heap.objs.size) (compEnvC scope cl (s₂.heap.objs.size + 1) env))
        (RR (.ref s₂.heap.objs.size) (s₂.heap.objs.size + 1)) s₃ := by
    rintro s₃ rfl
    refine compLoop_T
      (fun k s' => ∃ h' tk m' i ep, ∃ ys : List Value, s' = { s₂ with heap := h', toks := tk } ∧ St i h' ∧ h'.get? s₂.heap.objs.size = some (PySem.W.listOf ys.toArray ep) ∧ h'.Ns (s₂.heap.objs.size + 1) m' ∧ J i ys ∧ ys.length ≤ i ∧ i ≤ n ∧ k = n + 1 - i ∧
        (∀ b o, b ∉ wr → s₂.heap.get? b = some o → h'.get? b = some o)) ?_ (n + 1)
      ⟨h₁, _, _, 0, 0, [], rfl, hst₁, hacc, hns₁, hq.start, Nat.zero_le _, Nat.zero_le _, rfl, fun b o _ e => old b o e⟩
    rintro k' s' ⟨H, tk, m', i, ep, ys, rfl, hst', hacc', hn', hJ, hle, hi, rfl, hk⟩
    have subwr : ∀ b ∈ wr, b < s₂.heap.objs.size := fun b hb => hfp b (Wk.sub b hb)
    have nD : s₂.heap.objs.size ∉ wr := fun hm => Nat.lt_irrefl _ (subwr _ hm)
    have nC : s₂.heap.objs.size + 1 ∉ wr := fun hm => Nat.lt_irrefl _ (Nat.lt_of_succ_lt (subwr _ hm))
    by_cases hlt : i < n
    · refine Wk.item i _ _ _ hlt hst' fun t vals h₂ tk₂ hPv ht hmid hk₂ => ?_
      refine Wk.go _ _ _ _ _ _ _ _ hmid fun h₃ hst₃ hk₃ => ?_
      have htw := Wk.apart _ _ _ hmid
      have ht₃ : h₃.IsTuple t vals := ht.at fun o e => hk₃ _ o htw e
      obtain ⟨u, v, rfl⟩ := hq.pair i vals hPv
      refine assign_Tuple_tuple hh (x1 := k) (items := #[u, v]) (show IsTup _ t #[u, v] from ht₃) rfl rfl fun h₅ he => ?_
      have he' : ∀ b o, h₃.get? b = some o → h₅.get? b = some o := fun b o e => he b o (Nat.ne_of_lt (Heap.lt_size e)) e
      have hnC : h₅.Ns (s₂.heap.objs.size + 1) m' := ((hn'.at' fun o e => hk₂ _ o nC e).at' fun o e => hk₃ _ o nC e).at' fun o e => he' _ o e
      refine assignInOrder_cons (wpAny_assign_Name (wpAny_storeName_local (lookup_relabel_local hx) hnC (fun h₆ hn₆ hs₆ => ?_) (by simp [compEnvC, relabel, hkind])))
      refine assignInOrder_cons (wpAny_assign_Name (wpAny_storeName_local (lookup_relabel_local hx2) hn₆ (fun h₇ hn₇ hs₇ => ?_) (by simp [compEnvC, relabel, hkind])))
      refine assignInOrder_nil ?_
      have hn₇ : h₇.Ns (s₂.heap.objs.size + 1) _ := hn₇
      have hs₆ : Heap.SameBut (s₂.heap.objs.size + 1) h₅ h₆ := hs₆
      have hs₇ : Heap.SameBut (s₂.heap.objs.size + 1) h₆ h₇ := hs₇
      have up : ∀ b o, b ∉ wr → b ≠ s₂.heap.objs.size + 1 → H.get? b = some o → h₇.get? b = some o := fun b o hb hc e => hs₇.extBut b o hc (hs₆.extBut b o hc (he' _ _ (hk₃ b o hb (hk₂ b o hb e))))
      have hacc₃ := up _ _ nD (neN (by omega)) hacc'
      have hst₇ : St (i + 1) h₇ := Wk.frame _ _ _ hst₃ fun b hb o e => by
        have hc : b ≠ s₂.heap.objs.size + 1 := fun q => absurd (hfp b hb) (by rw [q]; exact Nat.not_lt.mpr (by omega))
        exact hs₇.extBut b o hc (hs₆.extBut b o hc (he' _ _ e))
      have upS : ∀ b o, b ∉ wr → s₂.heap.get? b = some o → h₇.get? b = some o := fun b o hb e => up b o hb (by have := nlt e; exact neN (by omega)) (hk b o hb e)
      refine wpAny_mono (hq.turn i u v ys h₇ _ _ _ hlt hPv hJ hn₇ (by simp [hxx]) (by simp) upS) (fun ok s₄ h₄ => ?_) fun _ _ e => e
      cases ok with
      | false =>
        simp only [Bool.false_eq_true, if_false] at h₄ ⊢
        obtain ⟨h₈, tk₈, rfl, hk₈, hJ₈⟩ := h₄
        exact ⟨n + 1 - (i + 1), by omega, h₈, tk₈, _, i + 1, ep, ys, rfl, Wk.frame _ _ _ hst₇ fun b _ o e => hk₈.all b o e, hk₈.all _ _ hacc₃, hn₇.at' fun o e => hk₈.all _ o e, hJ₈, by omega, hlt, rfl, fun b o hb e => hk₈.all b o (upS b o hb e)⟩
      | true =>
        simp only [if_true] at h₄ ⊢
        refine wpAny_mono h₄ (fun y s₅ h₅' => ?_) fun _ _ e => e
        obtain ⟨h₈, tk₈, rfl, hk₈, hJ₈⟩ := h₅'
        have hacc₈ := hk₈.all _ _ hacc₃
        have hys : ys.toArray.size ≤ sizeLine := by rw [List.size_toArray]; omega
        refine wpAny_list_append_plain (hsz := hys) ⟨ep, hacc₈⟩ fun h₉ hl₉ hs₉ => ?_
        obtain ⟨ep', hl₉⟩ := hl₉
        refine ⟨n + 1 - (i + 1), by omega, h₉, tk₈, (fun z => if z = x2 then some v else (fun z => if z = x then some u else m' z) z), i + 1, ep', ys ++ [y], rfl, ?_, ?_, ?_, hJ₈, by simp; omega, hlt, rfl, ?_⟩
        · exact Wk.frame _ _ _ hst₇ fun b hb o e => hs₉.extBut b o (fun q => absurd (hfp b hb) (by rw [q]; exact Nat.not_lt.mpr (by omega))) (hk₈.all b o e)
        · rw [hl₉]; simp [PySem.W.listOf]
        · exact (hn₇.at' fun o e => hk₈.all _ o e).sameBut hs₉ (neN (by omega))
        · exact fun b o hb e => hs₉.extBut b o (by have := nlt e; exact neN (by omega)) (hk₈.all b o (upS b o hb e))
    · have hin : i = n := by omega
      subst hin
      refine Wk.done _ _ _ hst' fun h₂ tk₂ hk₂ => ?_
      exact hRR h₂ tk₂ m' ys ep (hn'.at' fun o e => hk₂ _ o nC e) (hk₂ _ _ nD hacc') hle hJ fun b o hb e => hk₂ b o hb (hk b o hb e)
  have hl := loop _ rfl
  rw [← hC] at hl
  exact codeAny_compStart_list hl (Wk.self 0 _ _ _ hst₁ hl)

/-- what is to be shown of the iterator: as a value -/
noncomputable def BlkT (w : World) (A : Around) (env : Env) (scope : Scope) (cl : List (Str × Addr)) (x x2 : Str) (ifs : List Expr) (elt : Expr) (Q : Value → Shared → Prop) (it : Value) (s₂ : Shared) : Prop :=
  ∃ I fp wr n Pt St Mid J, it = .ref I ∧ WalksU RP w A I fp wr n Pt St Mid ∧ n ≤ sizeLine ∧ St 0 s₂.heap ∧ (∀ b ∈ fp, b < s₂.heap.objs.size) ∧ CompTJ w A env scope cl x x2 ifs elt wr n Pt J s₂ ∧
      (∀ h' tk (ys : List Value) ep, h'.get? s₂.heap.objs.size = some (PySem.W.listOf ys.toArray ep) → ys.length ≤ n → J n ys →
        (∀ b o, b ∉ wr → s₂.heap.get? b = some o → h'.get? b = some o) → Q (.ref s₂.heap.objs.size) { s₂ with heap := h', toks := tk })

theorem comp_T {w : World} {A : Around} {E : Value → Shared → Prop} {env : Env} {elt iter : Expr} {x x2 : Str} {px px2 tp : Pos} {k : Nat} {ifs : List Expr} {scope : Scope} {cl : List (Str × Addr)} {pos : Pos} {s : Shared} {Q : Value → Shared → Prop} (hh : A.handled = none)
    (hclos : closureFor scope env = pure cl) (hcell : ∀ y ∈ scope.names, y.2 ≠ .cell) (hkind : scope.kind = .function)
    (hnames : ∀ y ∈ scope.names, y.2 = .local → scope.names.lookup y.1 = some .local) (hx : scope.names.lookup x = some .local) (hx2 : scope.names.lookup x2 = some .local) (hxx : x ≠ x2)
    (hs : ∀ x, foldedSetIterable iter env x = pure x)
    (h : wpAny (model RP w) A (eval iter env) (fun xv s₁ => wpAny (model RP w) A (pyIter xv) (BlkT w A env scope cl x x2 ifs elt Q) E s₁) E s) :
    wpAny (model RP w) A (eval (.ListComp elt [⟨.Tuple [.Name x px, .Name x2 px2] k tp, iter, ifs, 0⟩] scope pos) env) Q E s := by
  rw [eval_ListComp]
  refine wpAny_comprehension_free (use := none) rfl hs hclos hkind hnames (wpAny_mono h (fun xv s₁ h₁ => wpAny_mono h₁ (fun it s₂ h₂ => ?_) fun _ _ e => e) fun _ _ e => e)
  obtain ⟨I, fp, wr, n, Pt, St, Mid, J, rfl, Wk, hsz, hst, hfp, hq, hQ⟩ := h₂
  refine comp_block_T (RR := fun acc C => compPost (model RP w) A E none Q acc C) hh Wk hsz hcell hkind hx hx2 hxx hst hfp hq ?_
  intro h' tk m' ys ep hn hl hle hJ hk
  refine ⟨m', hn, fun h'' hs'' => ?_⟩
  exact hQ h'' tk ys ep (hs''.extBut _ _ (neN (by omega)) hl) hle hJ fun b o hb e => hs''.extBut b o (by have := nlt e; exact neN (by omega)) (hk b o hb e)

/-- the same, where the list goes into a local -/
noncomputable def BlkTA (w : World) (A : Around) (env : Env) (scope : Scope) (cl : List (Str × Addr)) (x x2 : Str) (ifs : List Expr) (elt : Expr) (y : Str) (Q : Flow → Shared → Prop) (it : Value) (s₂ : Shared) : Prop :=
  ∃ I fp wr n Pt St Mid J m, it = .ref I ∧ WalksU RP w A I fp wr n Pt St Mid ∧ n ≤ sizeLine ∧ St 0 s₂.heap ∧ (∀ b ∈ fp, b < s₂.heap.objs.size) ∧ env.locals ∉ wr ∧ s₂.heap.Ns env.locals m ∧ CompTJ w A env scope cl x x2 ifs elt wr n Pt J s₂ ∧
      (∀ h' tk (ys : List Value) ep, h'.get? s₂.heap.objs.size = some (PySem.W.listOf ys.toArray ep) → ys.length ≤ n → J n ys → h'.Ns env.locals (fun z => if z = y then some (.ref s₂.heap.objs.size) else m z) →
        (∀ b o, b ≠ env.locals → b ∉ wr → s₂.heap.get? b = some o → h'.get? b = some o) → Q .next { s₂ with heap := h', toks := tk })

theorem assign_T {w : World} {A : Around} {E : Value → Shared → Prop} {env : Env} {elt iter : Expr} {x x2 y : Str} {px px2 tp py : Pos} {k : Nat} {ifs : List Expr} {scope : Scope} {cl : List (Str × Addr)} {pos spos : Pos} {s : Shared} {Q : Flow → Shared → Prop} (hh : A.handled = none)
    (hsw : swapsWith (.ListComp elt [⟨.Tuple [.Name x px, .Name x2 px2] k tp, iter, ifs, 0⟩] scope pos) (some (.Name y py)) spos.line env = pure true)
    (hclos : closureFor scope env = pure cl) (hcell : ∀ y ∈ scope.names, y.2 ≠ .cell) (hkind : scope.kind = .function)
    (hnames : ∀ y ∈ scope.names, y.2 = .local → scope.names.lookup y.1 = some .local) (hx : scope.names.lookup x = some .local) (hx2 : scope.names.lookup x2 = some .local) (hxx : x ≠ x2)
    (hy : env.kindOf y = some .local) (hp : (env.scope.kind == .class || (env.scope.kind == .module && env.locals != env.globals)) = false)
    (hs : ∀ x, foldedSetIterable iter env x = pure x)
    (h : wpAny (model RP w) A (eval iter env) (fun xv s₁ => wpAny (model RP w) A (pyIter xv) (BlkTA w A env scope cl x x2 ifs elt y Q) E s₁) E s) :
    wpAny (model RP w) A (exec (.Assign [.Name y py] (.ListComp elt [⟨.Tuple [.Name x px, .Name x2 px2] k tp, iter, ifs, 0⟩] scope pos) spos) env) Q E s := by
  rw [exec_Assign_Name_used _ _ _ _ hsw]
  refine wpAny_bind (wpAny_standAt (wpAny_bind ?_))
  show wpAny _ A (do let _ ← comprehension (.ListComp elt [⟨.Tuple [.Name x px, .Name x2 px2] k tp, iter, ifs, 0⟩] scope pos) scope env _ (newList []) false (eval iter env) (some (assign (.Name y py) env))) _ _ s
  refine wpAny_bind (wpAny_mono (wpAny_comprehension_free (use := some (assign (.Name y py) env)) (Q := fun _ s' => Q .next s') rfl hs hclos hkind hnames
    (wpAny_mono h (fun xv s₁ h₁ => wpAny_mono h₁ (fun it s₂ h₂ => ?_) fun _ _ e => e) fun _ _ e => e)) (fun _ s' hq => wpAny_pure (wpAny_pure hq)) fun _ _ e => e)
  obtain ⟨I, fp, wr, n, Pt, St, Mid, J, m, rfl, Wk, hsz, hst, hfp, hLf, hn, hq, hQ⟩ := h₂
  refine comp_block_T (RR := fun acc C => compPost (model RP w) A E (some (assign (.Name y py) env)) (fun _ s' => Q .next s') acc C) hh Wk hsz hcell hkind hx hx2 hxx hst hfp hq ?_
  intro h' tk m' ys ep hnC hl hle hJ hk
  have hLlt : @LT.lt Nat _ env.locals s₂.heap.objs.size := by obtain ⟨o, _, _, ho, _⟩ := hn; exact nlt ho
  have hLC : @Ne Nat env.locals (s₂.heap.objs.size + 1) := neN (by omega)
  have hLD : @Ne Nat s₂.heap.objs.size env.locals := neN (by omega)
  show wpAny _ A (assign (.Name y py) env (.ref _)) _ _ _
  refine wpAny_assign_Name (wpAny_storeName_local hy (hn.at' fun o e => hk _ o hLf e) (fun h₂ hn₂ hs₂ => ?_) hp)
  refine ⟨m', hnC.sameBut hs₂ (Ne.symm hLC), fun h₃ hs₃ => ?_⟩
  exact hQ h₃ _ ys ep (hs₃.extBut _ _ (neN (by omega)) (hs₂.extBut _ _ hLD hl)) hle hJ (hn₂.sameBut hs₃ hLC)
    fun b o hbL hb e => hs₃.extBut b o (by have := nlt e; exact neN (by omega)) (hs₂.extBut b o hbL (hk b o hb e))

/-- over a list of pairs that stands -/
theorem BlkTA.pairs {w : World} {A : Around} {E : Value → Shared → Prop} {env : Env} {elt : Expr} {x x2 y : Str} {ifs : List Expr} {scope : Scope} {cl : List (Str × Addr)} {s : Shared} {Q : Flow → Shared → Prop} {l : Addr} {vs : List Value} {ep : Nat} {g : Heap} {m : Str → Option Value}
    (hh : A.handled = none) (F : Fr g env.locals s.heap m) (J : Nat → List Value → Prop) (Ts : Nat → Addr) (us : Nat → Value × Value) (hl : s.heap.get? l = some (PySem.W.listOf vs.toArray ep)) (hsz : vs.length ≤ sizeLine)
    (hit : ∀ j, j < vs.length → vs[j]? = some (.ref (Ts j))) (htu : ∀ j, j < vs.length → s.heap.IsTuple (Ts j) #[(us j).1, (us j).2]) (start : J 0 [])
    (turn : ∀ i ys h tk m₃ E', i < vs.length → J i ys → h.Ns (s.heap.objs.size + 2) m₃ → m₃ x = some (us i).1 → m₃ x2 = some (us i).2 → Keep [] s.heap h →
      wpAny (model RP w) A (forIn ifs true fun c r => if r = true then do let ok ← isTrue c (compEnvC scope cl (s.heap.objs.size + 2) env) (eval c (compEnvC scope cl (s.heap.objs.size + 2) env)); pure (ForInStep.yield ok) else pure (ForInStep.yield r))
        (fun ok s₄ => if ok = true then
            wpAny (model RP w) A (eval elt (compEnvC scope cl (s.heap.objs.size + 2) env)) (fun y s₅ => TEnd s [] h (fun _ => J (i + 1) (ys ++ [y])) s₅) E' s₄
          else TEnd s [] h (fun _ => J (i + 1) ys) s₄) E' { s with heap := h, toks := tk })
    (done : ∀ D h' tk (ys : List Value) ep', s.heap.get? D = none → h'.get? D = some (PySem.W.listOf ys.toArray ep') → @Ne Nat D env.locals → ys.length ≤ vs.length → J vs.length ys → Fr g env.locals h' (fun z => if z = y then some (.ref D) else m z) → Keep [env.locals] s.heap h' → Q .next { s with heap := h', toks := tk }) :
    wpAny (model RP w) A (pyIter (.ref l)) (BlkTA w A env scope cl x x2 ifs elt y Q) E s := by
  have hls : s.heap.IsList l vs.toArray := ⟨_, hl, rfl, _, rfl⟩
  have hlt := nlt hl
  have hne : l ≠ s.heap.objs.size := neN (by omega)
  have hL : @LT.lt Nat _ env.locals s.heap.objs.size := F.ns.lt
  have hsize : vs.toArray.size = vs.length := List.size_toArray
  have htl : ∀ j, j < vs.length → @LT.lt Nat _ (Ts j) s.heap.objs.size := fun j hj => by obtain ⟨o, ho, _⟩ := htu j hj; exact nlt ho
  refine wpAny_pyIter_list hls ?_
  have up : ∀ (o : Obj) b x, s.heap.get? b = some x → (s.heap.push o).get? b = some x := fun o b x e => Heap.get?_push_of_some o e
  have offI : ∀ b o, s.heap.get? b = some o → b ∉ [s.heap.objs.size] := fun b o e q => absurd (nlt e) (by rw [List.mem_singleton.mp q]; exact Nat.lt_irrefl _)
  have Wk := WalksU.listOfTuples (prog := RP) (w := w) hh s.heap.objs.size l hne vs.toArray Ts (fun j => #[(us j).1, (us j).2]) (fun j hj => by rw [hsize] at hj; simpa using hit j hj) (fun j hj q => by rw [hsize] at hj; have := htl j hj; rw [q] at this; exact Nat.lt_irrefl _ this)
  rw [hsize] at Wk
  refine ⟨_, _, _, vs.length, _, _, _, J, m, rfl, Wk.bound, hsz, ⟨⟨_, Heap.get?_push_size _ rfl, rfl, rfl⟩, hls.at fun o e => up _ _ _ e, fun k hk => (htu k hk).at fun o e => up _ _ _ e⟩, ?_, ?_, (F.push _).ns, ?_, ?_⟩
  · intro b hb
    show @LT.lt Nat _ b _
    rw [Heap.size_push]
    rcases List.mem_cons.mp hb with rfl | hb
    · exact Nat.lt_succ_self _
    · rcases List.mem_cons.mp hb with rfl | hb
      · omega
      · obtain ⟨j, hj, rfl⟩ := List.mem_map.mp hb
        exact Nat.lt_succ_of_lt (htl j (List.mem_range.mp hj))
  · intro hm
    exact Nat.ne_of_lt hL (List.mem_singleton.mp hm)
  · refine ⟨fun i vals h => ⟨_, _, h.2⟩, start, ?_⟩
    intro i u v ys h tk m₃ E' hi hP hj hn hm hm2 hk
    obtain ⟨_, hP⟩ := hP
    have e1 : u = (us i).1 := by injection hP with hP; injection hP
    have e2 : v = (us i).2 := by injection hP with hP; injection hP with _ hP; injection hP
    subst e1 e2
    rw [Heap.size_push] at hn ⊢
    exact turn i ys h tk m₃ E' hi hj hn hm hm2 fun b o _ e => hk b o (offI b o e) (up _ _ _ e)
  · intro h' tk ys ep' hl' hle hj hns hk
    rw [Heap.size_push] at hl' hns
    have hD : s.heap.get? (s.heap.objs.size + 1) = none := by
      cases q : s.heap.get? (s.heap.objs.size + 1) with
      | none => rfl
      | some o => exact absurd (nlt q) (by omega)
    refine done (s.heap.objs.size + 1) h' tk ys ep' hD hl' (neN (by omega)) hle hj ⟨hns, fun b o e => ?_, F.above⟩ fun b o hb e => hk b o (by simpa using hb) (offI b o e) (up _ _ _ e)
    have e' := F.keep b o e
    have hbL : b ≠ env.locals := fun q => by
      have h1 := nlt e
      have h2 : @LE.le Nat _ g.objs.size env.locals := F.above
      rw [q] at h1
      omega
    exact hk b o hbL (offI b o e') (up _ _ _ e')

theorem ne_nil1 {w : World} {A : Around} {E : Value → Shared → Prop} {s : Shared} {h₀ : Heap} {L l b : Addr} {Q : Value → Shared → Prop} {news : List (Addr × Obj)} {u : Value} {us : List Value} {ep e2 : Nat}
    (N : News h₀ L s.heap news) (h1 : (l, PySem.W.listOf ⟨u :: us⟩ ep) ∈ news) (h2 : (b, PySem.W.listOf #[] e2) ∈ news) (hu : A.units < cLine) (h : Q (.bool true) s) :
    wpAny (model RP w) A (compareOp .NotEq (.ref l) (.ref b)) Q E s := ne_nil N h1 h2 hu (by have e : ((⟨u :: us⟩ : Array Value).size == 0) = false := rfl; rw [e]; exact h)

/-- zip of two lists that stand -/
theorem zip_T {w : World} {A : Around} {E : Value → Shared → Prop} {env : Env} {elt : Expr} {x x2 : Str} {ifs : List Expr} {scope : Scope} {cl : List (Str × Addr)} {s : Shared} {Q : Value → Shared → Prop} {l1 l2 e1 e2 : Nat} {us vs : List Value}
    (hh : A.handled = none) (J : Nat → List Value → Prop) (h1 : s.heap.get? l1 = some (PySem.W.listOf us.toArray e1)) (h2 : s.heap.get? l2 = some (PySem.W.listOf vs.toArray e2)) (hsz : us.length ≤ sizeLine) (start : J 0 [])
    (turn : ∀ C i u v ys h tk m₃ E', us[i]? = some u → vs[i]? = some v → J i ys → h.Ns C m₃ → m₃ x = some u → m₃ x2 = some v → Keep [] s.heap h →
      wpAny (model RP w) A (forIn ifs true fun c r => if r = true then do let ok ← isTrue c (compEnvC scope cl C env) (eval c (compEnvC scope cl C env)); pure (ForInStep.yield ok) else pure (ForInStep.yield r))
        (fun ok s₄ => if ok = true then
            wpAny (model RP w) A (eval elt (compEnvC scope cl C env)) (fun y s₅ => TEnd s [] h (fun _ => J (i + 1) (ys ++ [y])) s₅) E' s₄
          else TEnd s [] h (fun _ => J (i + 1) ys) s₄) E' { s with heap := h, toks := tk })
    (done : ∀ D h' tk (ys : List Value) ep', s.heap.get? D = none → h'.get? D = some (PySem.W.listOf ys.toArray ep') → J (min us.length vs.length) ys → Keep [] s.heap h' → Q (.ref D) { s with heap := h', toks := tk }) :
    wpAny (model RP w) A (call (.type "zip") [.ref l1, .ref l2]) (fun xv s₁ => wpAny (model RP w) A (pyIter xv) (BlkT w A env scope cl x x2 ifs elt Q) E s₁) E s := by
  have hl1 : s.heap.IsList l1 us.toArray := ⟨_, h1, rfl, _, rfl⟩
  have hl2 : s.heap.IsList l2 vs.toArray := ⟨_, h2, rfl, _, rfl⟩
  have lt1 := nlt h1
  have lt2 := nlt h2
  refine call_zip_2 hl1 hl2 fun hz z1 z2 z3 z4 z5 zs zk => ?_
  refine wpAny_pyIter_zip z1 ?_
  have D : ZipApart (s.heap.objs.size + 4) (s.heap.objs.size + 2) (s.heap.objs.size + 3) s.heap.objs.size (s.heap.objs.size + 1) l1 l2 := ktu_apart _ _ _ lt1 lt2
  have Wk := (WalksT.zip2 (prog := RP) (w := w) hh _ _ _ _ _ _ _ D us.toArray vs.toArray).toU
  have offz : ∀ b o, s.heap.get? b = some o → b ∉ [s.heap.objs.size + 4, s.heap.objs.size + 3, s.heap.objs.size, s.heap.objs.size + 1] := fun b o e q => by
    have := nlt e
    simp only [List.mem_cons, List.not_mem_nil, or_false] at q
    rcases q with q | q | q | q <;> rw [q] at this <;> omega
  refine ⟨_, _, _, _, _, _, _, J, rfl, Wk, ?_, ⟨z1, z2, ⟨_, _, z3⟩, z4, z5, hl1.at fun o e => zk _ o e, hl2.at fun o e => zk _ o e⟩, ?_, ⟨?_, start, ?_⟩, ?_⟩
  · simp only [List.size_toArray]
    exact Nat.le_trans (Nat.min_le_left ..) hsz
  · intro b hb
    show @LT.lt Nat _ b hz.objs.size
    rw [zs]
    simp only [List.mem_cons, List.not_mem_nil, or_false] at hb
    rcases hb with rfl | rfl | rfl | rfl | rfl | rfl | rfl <;> omega
  · rintro i vals ⟨a, b, _, _, rfl⟩
    exact ⟨a, b, rfl⟩
  · rintro i u v ys h tk m₃ E' hi ⟨a, b, ha, hb, hab⟩ hj hn hm hm2 hk
    have q1 : u = a := by injection hab with hab; injection hab
    have q2 : v = b := by injection hab with hab; injection hab with _ hab; injection hab
    subst q1 q2
    exact turn _ i u v ys h tk m₃ E' (by simpa using ha) (by simpa using hb) hj hn hm hm2 fun b o _ e => hk b o (offz b o e) (zk b o e)
  · intro h' tk ys ep' hl' hle hj hk
    have hD : s.heap.get? hz.objs.size = none := by
      cases q : s.heap.get? hz.objs.size with
      | none => rfl
      | some o => exact absurd (nlt q) (by rw [zs]; exact Nat.not_lt.mpr (Nat.le_add_right _ _))
    refine done hz.objs.size h' tk ys ep' hD hl' (by simpa using hj) fun b o _ e => hk b o (offz b o e) (zk b o e)
theorem fresh_hi {h : Heap} {L' l : Nat} (hL : @LE.le Nat _ h.objs.size L') (hl : @LT.lt Nat _ (L' + 1) l) : h.get? l = none := by
  cases q : h.get? l with
  | none => rfl
  | some o => exact absurd (nlt q) (by omega)
theorem keep_all {s : Shared} {news : List (Addr × Obj)} {g h' : Heap} {L' : Addr} {m' : Str → Option Value} {nw : List (Addr × Obj)} (hC : ∀ p ∈ news, s.heap.get? p.1 = some p.2) (hg : g = hideAll s.heap (news.map (·.1))) (F : Fr g L' h' m') (N : News g L' h' nw) (hm : ∀ p ∈ news, p ∈ nw) : Keep [] s.heap h' := fun b o _ e => by
  by_cases q : b ∈ news.map (·.1)
  · obtain ⟨p, hp, rfl⟩ := List.mem_map.mp q
    rw [hC p hp] at e
    cases e
    exact (N p (hm p hp)).1
  · exact keep_of_fr hg F b o q e
theorem news_off {h₀ h : Heap} {L D : Addr} {news : List (Addr × Obj)} (N : News h₀ L h news) (hD : h.get? D = none) : ∀ p ∈ news, @Ne Nat p.1 D := fun p hp q => by
  have e := (N p hp).1
  have q : p.1 = D := q
  rw [q, hD] at e; cases e

theorem minor0_code {w : World} {A : Around} {s : Shared} {R : Result → Shared → Prop} {ml m0 m1 ol e0 e1 n0 n1 : Nat} {b0 b1 : Bool} {k0 k1 : Addr} {tm tn : Tok}
    (C : Rdy w A 4 s.heap [(ml, PySem.W.listOf #[.ref m0, .ref m1] e0), (m0, tupOf #[.str (PySem.Str.ofString "m") tm, .bool b0, .ref k0] n0), (m1, tupOf #[.str (PySem.Str.ofString "n") tn, .bool b1, .ref k1] n1), (ol, PySem.W.listOf #[] e1)])
    (ret : ∀ (h' : Heap) (tk' l ep : Nat) (vs : List Value), Keep [] s.heap h' → h'.get? l = some (PySem.W.listOf vs.toArray ep) → s.heap.get? l = none → vs = (if b0 = true then [.ref k0] else []) ++ (if b1 = true then [.ref k1] else []) → R (.ok (.ret (.ref l))) { s with heap := h', toks := tk' }) :
    codeAny (model RP w) A (.call (.ref 203) ⟨[.ref ml, .ref ol], []⟩) R s := by
  refine' enterC (n := 3) (fun p => defAt p 29) (binds := [(PySem.Str.ofString "modes", .ref ml), (PySem.Str.ofString "overriding", .ref ol)]) (PySem.Str.ofString "minor_maps") C ?ho ?h1 ?h2 ?hq ?hcd ?hbind ?hkind ?hnd ?hco ?hgen ?hk ?_
  k_extra "my_enterC"
  intro A₁ g L' h₁ tk cells mean mg mb hg Rd F N Y X T
  have hL : @LE.le Nat _ s.heap.objs.size L' := by
    have := F.above
    rw [hg, hideAll_size] at this
    exact this
  have hC : ∀ p ∈ [(ml, PySem.W.listOf #[.ref m0, .ref m1] e0), (m0, tupOf #[.str (PySem.Str.ofString "m") tm, .bool b0, .ref k0] n0), (m1, tupOf #[.str (PySem.Str.ofString "n") tn, .bool b1, .ref k1] n1), (ol, PySem.W.listOf #[] e1)], s.heap.get? p.1 = some p.2 := fun p hp => C.at hp
  have v1 : @LT.lt Nat _ ml s.heap.objs.size := nlt (C.at (.head _))
  have v2 : @LT.lt Nat _ m0 s.heap.objs.size := nlt (C.at (.tail _ (.head _)))
  have v3 : @LT.lt Nat _ m1 s.heap.objs.size := nlt (C.at (.tail _ (.tail _ (.head _))))
  have v4 : @LT.lt Nat _ ol s.heap.objs.size := nlt (C.at (.tail _ (.tail _ (.tail _ (.head _)))))
  clear C
  obtain ⟨ah, dp, ev, gd, un⟩ := A₁
  obtain rfl : ah = none := (Rd _ _ _ F N).handled
  obtain ⟨oc, rfl, hc⟩ := CellsAre.one Y
  simp only [List.cons_append, List.nil_append] at N
  cases b0 <;> cases b1 <;> k_steps
  · try dsimp only
    with_reducible rename Fr _ _ _ _ => F9
    with_reducible rename News _ _ _ _ => N9
    exact ret _ _ _ _ _ (keep_all hC hg F9 N9 (by simp only [List.forall_mem_cons]; exact ⟨by k_mem, by k_mem, by k_mem, by k_mem, List.forall_mem_nil _⟩)) (N9.get (by k_mem)) (fresh_hi hL (by first | (with_reducible rename _ < _ ∧ _ => lz; first | exact lz.1 | exact lz.2.1 | exact lz.2.2.1 | exact lz.2.2.2.1 | exact lz.2.2.2.2.1 | exact lz.2.2.2.2.2.1 | exact lz.2.2.2.2.2.2.1 | exact lz.2.2.2.2.2.2.2.1 | exact lz.2.2.2.2.2.2.2.2.1 | exact lz.2.2.2.2.2.2.2.2.2.1 | exact lz.2.2.2.2.2.2.2.2.2.2.1 | exact lz.2.2.2.2.2.2.2.2.2.2.2.1) | (with_reducible rename _ < _ ∧ _ => lz; clear lz; with_reducible rename _ < _ ∧ _ => lz; first | exact lz.1 | exact lz.2.1 | exact lz.2.2.1 | exact lz.2.2.2.1 | exact lz.2.2.2.2.1 | exact lz.2.2.2.2.2.1 | exact lz.2.2.2.2.2.2.1 | exact lz.2.2.2.2.2.2.2.1 | exact lz.2.2.2.2.2.2.2.2.1 | exact lz.2.2.2.2.2.2.2.2.2.1 | exact lz.2.2.2.2.2.2.2.2.2.2.1 | exact lz.2.2.2.2.2.2.2.2.2.2.2.1) | (with_reducible rename _ < _ ∧ _ => lz; clear lz; with_reducible rename _ < _ ∧ _ => lz; clear lz; with_reducible rename _ < _ ∧ _ => lz; first | exact lz.1 | exact lz.2.1 | exact lz.2.2.1 | exact lz.2.2.2.1 | exact lz.2.2.2.2.1 | exact lz.2.2.2.2.2.1 | exact lz.2.2.2.2.2.2.1 | exact lz.2.2.2.2.2.2.2.1 | exact lz.2.2.2.2.2.2.2.2.1 | exact lz.2.2.2.2.2.2.2.2.2.1 | exact lz.2.2.2.2.2.2.2.2.2.2.1 | exact lz.2.2.2.2.2.2.2.2.2.2.2.1) | (with_reducible rename _ < _ ∧ _ => lz; clear lz; with_reducible rename _ < _ ∧ _ => lz; clear lz; with_reducible rename _ < _ ∧ _ => lz; clear lz; with_reducible rename _ < _ ∧ _ => lz; first | exact lz.1 | exact lz.2.1 | exact lz.2.2.1 | exact lz.2.2.2.1 | exact lz.2.2.2.2.1 | exact lz.2.2.2.2.2.1 | exact lz.2.2.2.2.2.2.1 | exact lz.2.2.2.2.2.2.2.1 | exact lz.2.2.2.2.2.2.2.2.1 | exact lz.2.2.2.2.2.2.2.2.2.1 | exact lz.2.2.2.2.2.2.2.2.2.2.1 | exact lz.2.2.2.2.2.2.2.2.2.2.2.1) | (with_reducible rename _ < _ ∧ _ => lz; clear lz; with_reducible rename _ < _ ∧ _ => lz; clear lz; with_reducible rename _ < _ ∧ _ => lz; clear lz; with_reducible rename _ < _ ∧ _ => lz; clear lz; with_reducible rename _ < _ ∧ _ => lz; first | exact lz.1 | exact lz.2.1 | exact lz.2.2.1 | exact lz.2.2.2.1 | exact lz.2.2.2.2.1 | exact lz.2.2.2.2.2.1 | exact lz.2.2.2.2.2.2.1 | exact lz.2.2.2.2.2.2.2.1 | exact lz.2.2.2.2.2.2.2.2.1 | exact lz.2.2.2.2.2.2.2.2.2.1 | exact lz.2.2.2.2.2.2.2.2.2.2.1 | exact lz.2.2.2.2.2.2.2.2.2.2.2.1) | (with_reducible rename _ < _ ∧ _ => lz; clear lz; with_reducible rename _ < _ ∧ _ => lz; clear lz; with_reducible rename _ < _ ∧ _ => lz; clear lz; with_reducible rename _ < _ ∧ _ => lz; clear lz; with_reducible rename _ < _ ∧ _ => lz; clear lz; with_reducible rename _ < _ ∧ _ => lz; first | exact lz.1 | exact lz.2.1 | exact lz.2.2.1 | exact lz.2.2.2.1 | exact lz.2.2.2.2.1 | exact lz.2.2.2.2.2.1 | exact lz.2.2.2.2.2.2.1 | exact lz.2.2.2.2.2.2.2.1 | exact lz.2.2.2.2.2.2.2.2.1 | exact lz.2.2.2.2.2.2.2.2.2.1 | exact lz.2.2.2.2.2.2.2.2.2.2.1 | exact lz.2.2.2.2.2.2.2.2.2.2.2.1))) rfl
  · with_reducible rename Fr _ _ _ _ => F5
    with_reducible rename News _ _ _ _ => N5
    rename (Obj.data _ = Data.cell (some _)) => hc5
    refine Stop.go ?_
    k_unmd; try k_fold
    refine assign_T (cl := [(PySem.Str.ofString "name", L' + 1)]) rfl ?hsw ?hclos ?hcell ?hkind ?hnames ?hx ?hx2 ?hxx ?hy ?hp ?hs ?_
    case hsw => with_unfolding_all rfl
    case hclos => with_unfolding_all rfl
    case hcell => decide
    case hkind => exact rfl
    case hnames => decide
    case hx => exact rfl
    case hx2 => exact rfl
    case hxx => decide
    case hy => exact rfl
    case hp => exact rfl
    case hs => intro _; with_unfolding_all rfl
    k_steps
    refine Stop.go ?_
    refine BlkTA.pairs (vs := []) (ep := e1) rfl F5 (fun _ ys => ys = []) (fun _ => 0) (fun _ => (.none, .none)) (N5.get (by k_mem)) (by rw [sizeLine_eq]; exact Nat.le_of_ble_eq_true rfl) ?hit ?htu (by simp) ?turn ?done
    case hit => exact fun j hj => absurd hj (Nat.not_lt_zero _)
    case htu => exact fun j hj => absurd hj (Nat.not_lt_zero _)
    case turn => exact fun i ys h tk m₃ E' hi => absurd hi (Nat.not_lt_zero _)
    case done =>
      intro D h6 tk6 ys ep6 hD hl6 hDL hle hj F6 kp6
      subst hj
      have uD := news_off N5 hD
      have N6 := news_put N5 F5 kp6 hl6 hD hDL
      clear F5 N5 kp6 hl6 hD
      simp only [List.forall_mem_cons] at uD
      k_steps
      try dsimp only
      with_reducible rename Fr _ _ _ _ => F9
      with_reducible rename News _ _ _ _ => N9
      exact ret _ _ _ _ _ (keep_all hC hg F9 N9 (by simp only [List.forall_mem_cons]; exact ⟨by k_mem, by k_mem, by k_mem, by k_mem, List.forall_mem_nil _⟩)) (N9.get (by k_mem)) (fresh_hi hL (by first | (with_reducible rename _ < _ ∧ _ => lz; first | exact lz.1 | exact lz.2.1 | exact lz.2.2.1 | exact lz.2.2.2.1 | exact lz.2.2.2.2.1 | exact lz.2.2.2.2.2.1 | exact lz.2.2.2.2.2.2.1 | exact lz.2.2.2.2.2.2.2.1 | exact lz.2.2.2.2.2.2.2.2.1 | exact lz.2.2.2.2.2.2.2.2.2.1 | exact lz.2.2.2.2.2.2.2.2.2.2.1 | exact lz.2.2.2.2.2.2.2.2.2.2.2.1) | (with_reducible rename _ < _ ∧ _ => lz; clear lz; with_reducible rename _ < _ ∧ _ => lz; first | exact lz.1 | exact lz.2.1 | exact lz.2.2.1 | exact lz.2.2.2.1 | exact lz.2.2.2.2.1 | exact lz.2.2.2.2.2.1 | exact lz.2.2.2.2.2.2.1 | exact lz.2.2.2.2.2.2.2.1 | exact lz.2.2.2.2.2.2.2.2.1 | exact lz.2.2.2.2.2.2.2.2.2.1 | exact lz.2.2.2.2.2.2.2.2.2.2.1 | exact lz.2.2.2.2.2.2.2.2.2.2.2.1) | (with_reducible rename _ < _ ∧ _ => lz; clear lz; with_reducible rename _ < _ ∧ _ => lz; clear lz; with_reducible rename _ < _ ∧ _ => lz; first | exact lz.1 | exact lz.2.1 | exact lz.2.2.1 | exact lz.2.2.2.1 | exact lz.2.2.2.2.1 | exact lz.2.2.2.2.2.1 | exact lz.2.2.2.2.2.2.1 | exact lz.2.2.2.2.2.2.2.1 | exact lz.2.2.2.2.2.2.2.2.1 | exact lz.2.2.2.2.2.2.2.2.2.1 | exact lz.2.2.2.2.2.2.2.2.2.2.1 | exact lz.2.2.2.2.2.2.2.2.2.2.2.1) | (with_reducible rename _ < _ ∧ _ => lz; clear lz; with_reducible rename _ < _ ∧ _ => lz; clear lz; with_reducible rename _ < _ ∧ _ => lz; clear lz; with_reducible rename _ < _ ∧ _ => lz; first | exact lz.1 | exact lz.2.1 | exact lz.2.2.1 | exact lz.2.2.2.1 | exact lz.2.2.2.2.1 | exact lz.2.2.2.2.2.1 | exact lz.2.2.2.2.2.2.1 | exact lz.2.2.2.2.2.2.2.1 | exact lz.2.2.2.2.2.2.2.2.1 | exact lz.2.2.2.2.2.2.2.2.2.1 | exact lz.2.2.2.2.2.2.2.2.2.2.1 | exact lz.2.2.2.2.2.2.2.2.2.2.2.1) | (with_reducible rename _ < _ ∧ _ => lz; clear lz; with_reducible rename _ < _ ∧ _ => lz; clear lz; with_reducible rename _ < _ ∧ _ => lz; clear lz; with_reducible rename _ < _ ∧ _ => lz; clear lz; with_reducible rename _ < _ ∧ _ => lz; first | exact lz.1 | exact lz.2.1 | exact lz.2.2.1 | exact lz.2.2.2.1 | exact lz.2.2.2.2.1 | exact lz.2.2.2.2.2.1 | exact lz.2.2.2.2.2.2.1 | exact lz.2.2.2.2.2.2.2.1 | exact lz.2.2.2.2.2.2.2.2.1 | exact lz.2.2.2.2.2.2.2.2.2.1 | exact lz.2.2.2.2.2.2.2.2.2.2.1 | exact lz.2.2.2.2.2.2.2.2.2.2.2.1) | (with_reducible rename _ < _ ∧ _ => lz; clear lz; with_reducible rename _ < _ ∧ _ => lz; clear lz; with_reducible rename _ < _ ∧ _ => lz; clear lz; with_reducible rename _ < _ ∧ _ => lz; clear lz; with_reducible rename _ < _ ∧ _ => lz; clear lz; with_reducible rename _ < _ ∧ _ => lz; first | exact lz.1 | exact lz.2.1 | exact lz.2.2.1 | exact lz.2.2.2.1 | exact lz.2.2.2.2.1 | exact lz.2.2.2.2.2.1 | exact lz.2.2.2.2.2.2.1 | exact lz.2.2.2.2.2.2.2.1 | exact lz.2.2.2.2.2.2.2.2.1 | exact lz.2.2.2.2.2.2.2.2.2.1 | exact lz.2.2.2.2.2.2.2.2.2.2.1 | exact lz.2.2.2.2.2.2.2.2.2.2.2.1))) rfl
  · with_reducible rename Fr _ _ _ _ => F5
    with_reducible rename News _ _ _ _ => N5
    rename (Obj.data _ = Data.cell (some _)) => hc5
    refine Stop.go ?_
    k_unmd; try k_fold
    refine assign_T (cl := [(PySem.Str.ofString "name", L' + 1)]) rfl ?hsw ?hclos ?hcell ?hkind ?hnames ?hx ?hx2 ?hxx ?hy ?hp ?hs ?_
    case hsw => with_unfolding_all rfl
    case hclos => with_unfolding_all rfl
    case hcell => decide
    case hkind => exact rfl
    case hnames => decide
    case hx => exact rfl
    case hx2 => exact rfl
    case hxx => decide
    case hy => exact rfl
    case hp => exact rfl
    case hs => intro _; with_unfolding_all rfl
    k_steps
    refine Stop.go ?_
    refine BlkTA.pairs (vs := []) (ep := e1) rfl F5 (fun _ ys => ys = []) (fun _ => 0) (fun _ => (.none, .none)) (N5.get (by k_mem)) (by rw [sizeLine_eq]; exact Nat.le_of_ble_eq_true rfl) ?hit ?htu (by simp) ?turn ?done
    case hit => exact fun j hj => absurd hj (Nat.not_lt_zero _)
    case htu => exact fun j hj => absurd hj (Nat.not_lt_zero _)
    case turn => exact fun i ys h tk m₃ E' hi => absurd hi (Nat.not_lt_zero _)
    case done =>
      intro D h6 tk6 ys ep6 hD hl6 hDL hle hj F6 kp6
      subst hj
      have uD := news_off N5 hD
      have N6 := news_put N5 F5 kp6 hl6 hD hDL
      clear F5 N5 kp6 hl6 hD
      simp only [List.forall_mem_cons] at uD
      k_steps
      try dsimp only
      with_reducible rename Fr _ _ _ _ => F9
      with_reducible rename News _ _ _ _ => N9
      exact ret _ _ _ _ _ (keep_all hC hg F9 N9 (by simp only [List.forall_mem_cons]; exact ⟨by k_mem, by k_mem, by k_mem, by k_mem, List.forall_mem_nil _⟩)) (N9.get (by k_mem)) (fresh_hi hL (by first | (with_reducible rename _ < _ ∧ _ => lz; first | exact lz.1 | exact lz.2.1 | exact lz.2.2.1 | exact lz.2.2.2.1 | exact lz.2.2.2.2.1 | exact lz.2.2.2.2.2.1 | exact lz.2.2.2.2.2.2.1 | exact lz.2.2.2.2.2.2.2.1 | exact lz.2.2.2.2.2.2.2.2.1 | exact lz.2.2.2.2.2.2.2.2.2.1 | exact lz.2.2.2.2.2.2.2.2.2.2.1 | exact lz.2.2.2.2.2.2.2.2.2.2.2.1) | (with_reducible rename _ < _ ∧ _ => lz; clear lz; with_reducible rename _ < _ ∧ _ => lz; first | exact lz.1 | exact lz.2.1 | exact lz.2.2.1 | exact lz.2.2.2.1 | exact lz.2.2.2.2.1 | exact lz.2.2.2.2.2.1 | exact lz.2.2.2.2.2.2.1 | exact lz.2.2.2.2.2.2.2.1 | exact lz.2.2.2.2.2.2.2.2.1 | exact lz.2.2.2.2.2.2.2.2.2.1 | exact lz.2.2.2.2.2.2.2.2.2.2.1 | exact lz.2.2.2.2.2.2.2.2.2.2.2.1) | (with_reducible rename _ < _ ∧ _ => lz; clear lz; with_reducible rename _ < _ ∧ _ => lz; clear lz; with_reducible rename _ < _ ∧ _ => lz; first | exact lz.1 | exact lz.2.1 | exact lz.2.2.1 | exact lz.2.2.2.1 | exact lz.2.2.2.2.1 | exact lz.2.2.2.2.2.1 | exact lz.2.2.2.2.2.2.1 | exact lz.2.2.2.2.2.2.2.1 | exact lz.2.2.2.2.2.2.2.2.1 | exact lz.2.2.2.2.2.2.2.2.2.1 | exact lz.2.2.2.2.2.2.2.2.2.2.1 | exact lz.2.2.2.2.2.2.2.2.2.2.2.1) | (with_reducible rename _ < _ ∧ _ => lz; clear lz; with_reducible rename _ < _ ∧ _ => lz; clear lz; with_reducible rename _ < _ ∧ _ => lz; clear lz; with_reducible rename _ < _ ∧ _ => lz; first | exact lz.1 | exact lz.2.1 | exact lz.2.2.1 | exact lz.2.2.2.1 | exact lz.2.2.2.2.1 | exact lz.2.2.2.2.2.1 | exact lz.2.2.2.2.2.2.1 | exact lz.2.2.2.2.2.2.2.1 | exact lz.2.2.2.2.2.2.2.2.1 | exact lz.2.2.2.2.2.2.2.2.2.1 | exact lz.2.2.2.2.2.2.2.2.2.2.1 | exact lz.2.2.2.2.2.2.2.2.2.2.2.1) | (with_reducible rename _ < _ ∧ _ => lz; clear lz; with_reducible rename _ < _ ∧ _ => lz; clear lz; with_reducible rename _ < _ ∧ _ => lz; clear lz; with_reducible rename _ < _ ∧ _ => lz; clear lz; with_reducible rename _ < _ ∧ _ => lz; first | exact lz.1 | exact lz.2.1 | exact lz.2.2.1 | exact lz.2.2.2.1 | exact lz.2.2.2.2.1 | exact lz.2.2.2.2.2.1 | exact lz.2.2.2.2.2.2.1 | exact lz.2.2.2.2.2.2.2.1 | exact lz.2.2.2.2.2.2.2.2.1 | exact lz.2.2.2.2.2.2.2.2.2.1 | exact lz.2.2.2.2.2.2.2.2.2.2.1 | exact lz.2.2.2.2.2.2.2.2.2.2.2.1) | (with_reducible rename _ < _ ∧ _ => lz; clear lz; with_reducible rename _ < _ ∧ _ => lz; clear lz; with_reducible rename _ < _ ∧ _ => lz; clear lz; with_reducible rename _ < _ ∧ _ => lz; clear lz; with_reducible rename _ < _ ∧ _ => lz; clear lz; with_reducible rename _ < _ ∧ _ => lz; first | exact lz.1 | exact lz.2.1 | exact lz.2.2.1 | exact lz.2.2.2.1 | exact lz.2.2.2.2.1 | exact lz.2.2.2.2.2.1 | exact lz.2.2.2.2.2.2.1 | exact lz.2.2.2.2.2.2.2.1 | exact lz.2.2.2.2.2.2.2.2.1 | exact lz.2.2.2.2.2.2.2.2.2.1 | exact lz.2.2.2.2.2.2.2.2.2.2.1 | exact lz.2.2.2.2.2.2.2.2.2.2.2.1))) rfl
  · with_reducible rename Fr _ _ _ _ => F5
    with_reducible rename News _ _ _ _ => N5
    rename (Obj.data _ = Data.cell (some _)) => hc5
    refine Stop.go ?_
    k_unmd; try k_fold
    refine assign_T (cl := [(PySem.Str.ofString "name", L' + 1)]) rfl ?hsw ?hclos ?hcell ?hkind ?hnames ?hx ?hx2 ?hxx ?hy ?hp ?hs ?_
    case hsw => with_unfolding_all rfl
    case hclos => with_unfolding_all rfl
    case hcell => decide
    case hkind => exact rfl
    case hnames => decide
    case hx => exact rfl
    case hx2 => exact rfl
    case hxx => decide
    case hy => exact rfl
    case hp => exact rfl
    case hs => intro _; with_unfolding_all rfl
    k_steps
    refine Stop.go ?_
    refine BlkTA.pairs (vs := []) (ep := e1) rfl F5 (fun _ ys => ys = []) (fun _ => 0) (fun _ => (.none, .none)) (N5.get (by k_mem)) (by rw [sizeLine_eq]; exact Nat.le_of_ble_eq_true rfl) ?hit ?htu (by simp) ?turn ?done
    case hit => exact fun j hj => absurd hj (Nat.not_lt_zero _)
    case htu => exact fun j hj => absurd hj (Nat.not_lt_zero _)
    case turn => exact fun i ys h tk m₃ E' hi => absurd hi (Nat.not_lt_zero _)
    case done =>
      intro D h6 tk6 ys ep6 hD hl6 hDL hle hj F6 kp6
      subst hj
      have uD := news_off N5 hD
      have N6 := news_put N5 F5 kp6 hl6 hD hDL
      clear F5 N5 kp6 hl6 hD
      simp only [List.forall_mem_cons] at uD
      k_steps
      with_reducible rename Fr _ _ _ _ => F5
      with_reducible rename News _ _ _ _ => N5
      rename (Obj.data _ = Data.cell (some _)) => hc5
      refine Stop.go ?_
      k_unmd; try k_fold
      refine assign_T (cl := [(PySem.Str.ofString "name", L' + 1)]) rfl ?hsw ?hclos ?hcell ?hkind ?hnames ?hx ?hx2 ?hxx ?hy ?hp ?hs ?_
      case hsw => with_unfolding_all rfl
      case hclos => with_unfolding_all rfl
      case hcell => decide
      case hkind => exact rfl
      case hnames => decide
      case hx => exact rfl
      case hx2 => exact rfl
      case hxx => decide
      case hy => exact rfl
      case hp => exact rfl
      case hs => intro _; with_unfolding_all rfl
      k_steps
      refine Stop.go ?_
      refine BlkTA.pairs (vs := []) (ep := e1) rfl F5 (fun _ ys => ys = []) (fun _ => 0) (fun _ => (.none, .none)) (N5.get (by k_mem)) (by rw [sizeLine_eq]; exact Nat.le_of_ble_eq_true rfl) ?hit ?htu (by simp) ?turn ?done
      case hit => exact fun j hj => absurd hj (Nat.not_lt_zero _)
      case htu => exact fun j hj => absurd hj (Nat.not_lt_zero _)
      case turn => exact fun i ys h tk m₃ E' hi => absurd hi (Nat.not_lt_zero _)
      case done =>
        intro D h6 tk6 ys ep6 hD hl6 hDL hle hj F6 kp6
        subst hj
        have uD := news_off N5 hD
        have N6 := news_put N5 F5 kp6 hl6 hD hDL
        clear F5 N5 kp6 hl6 hD
        simp only [List.forall_mem_cons] at uD
        k_steps
        try dsimp only
        with_reducible rename Fr _ _ _ _ => F9
        with_reducible rename News _ _ _ _ => N9
        exact ret _ _ _ _ _ (keep_all hC hg F9 N9 (by simp only [List.forall_mem_cons]; exact ⟨by k_mem, by k_mem, by k_mem, by k_mem, List.forall_mem_nil _⟩)) (N9.get (by k_mem)) (fresh_hi hL (by first | (with_reducible rename _ < _ ∧ _ => lz; first | exact lz.1 | exact lz.2.1 | exact lz.2.2.1 | exact lz.2.2.2.1 | exact lz.2.2.2.2.1 | exact lz.2.2.2.2.2.1 | exact lz.2.2.2.2.2.2.1 | exact lz.2.2.2.2.2.2.2.1 | exact lz.2.2.2.2.2.2.2.2.1 | exact lz.2.2.2.2.2.2.2.2.2.1 | exact lz.2.2.2.2.2.2.2.2.2.2.1 | exact lz.2.2.2.2.2.2.2.2.2.2.2.1) | (with_reducible rename _ < _ ∧ _ => lz; clear lz; with_reducible rename _ < _ ∧ _ => lz; first | exact lz.1 | exact lz.2.1 | exact lz.2.2.1 | exact lz.2.2.2.1 | exact lz.2.2.2.2.1 | exact lz.2.2.2.2.2.1 | exact lz.2.2.2.2.2.2.1 | exact lz.2.2.2.2.2.2.2.1 | exact lz.2.2.2.2.2.2.2.2.1 | exact lz.2.2.2.2.2.2.2.2.2.1 | exact lz.2.2.2.2.2.2.2.2.2.2.1 | exact lz.2.2.2.2.2.2.2.2.2.2.2.1) | (with_reducible rename _ < _ ∧ _ => lz; clear lz; with_reducible rename _ < _ ∧ _ => lz; clear lz; with_reducible rename _ < _ ∧ _ => lz; first | exact lz.1 | exact lz.2.1 | exact lz.2.2.1 | exact lz.2.2.2.1 | exact lz.2.2.2.2.1 | exact lz.2.2.2.2.2.1 | exact lz.2.2.2.2.2.2.1 | exact lz.2.2.2.2.2.2.2.1 | exact lz.2.2.2.2.2.2.2.2.1 | exact lz.2.2.2.2.2.2.2.2.2.1 | exact lz.2.2.2.2.2.2.2.2.2.2.1 | exact lz.2.2.2.2.2.2.2.2.2.2.2.1) | (with_reducible rename _ < _ ∧ _ => lz; clear lz; with_reducible rename _ < _ ∧ _ => lz; clear lz; with_reducible rename _ < _ ∧ _ => lz; clear lz; with_reducible rename _ < _ ∧ _ => lz; first | exact lz.1 | exact lz.2.1 | exact lz.2.2.1 | exact lz.2.2.2.1 | exact lz.2.2.2.2.1 | exact lz.2.2.2.2.2.1 | exact lz.2.2.2.2.2.2.1 | exact lz.2.2.2.2.2.2.2.1 | exact lz.2.2.2.2.2.2.2.2.1 | exact lz.2.2.2.2.2.2.2.2.2.1 | exact lz.2.2.2.2.2.2.2.2.2.2.1 | exact lz.2.2.2.2.2.2.2.2.2.2.2.1) | (with_reducible rename _ < _ ∧ _ => lz; clear lz; with_reducible rename _ < _ ∧ _ => lz; clear lz; with_reducible rename _ < _ ∧ _ => lz; clear lz; with_reducible rename _ < _ ∧ _ => lz; clear lz; with_reducible rename _ < _ ∧ _ => lz; first | exact lz.1 | exact lz.2.1 | exact lz.2.2.1 | exact lz.2.2.2.1 | exact lz.2.2.2.2.1 | exact lz.2.2.2.2.2.1 | exact lz.2.2.2.2.2.2.1 | exact lz.2.2.2.2.2.2.2.1 | exact lz.2.2.2.2.2.2.2.2.1 | exact lz.2.2.2.2.2.2.2.2.2.1 | exact lz.2.2.2.2.2.2.2.2.2.2.1 | exact lz.2.2.2.2.2.2.2.2.2.2.2.1) | (with_reducible rename _ < _ ∧ _ => lz; clear lz; with_reducible rename _ < _ ∧ _ => lz; clear lz; with_reducible rename _ < _ ∧ _ => lz; clear lz; with_reducible rename _ < _ ∧ _ => lz; clear lz; with_reducible rename _ < _ ∧ _ => lz; clear lz; with_reducible rename _ < _ ∧ _ => lz; first | exact lz.1 | exact lz.2.1 | exact lz.2.2.1 | exact lz.2.2.2.1 | exact lz.2.2.2.2.1 | exact lz.2.2.2.2.2.1 | exact lz.2.2.2.2.2.2.1 | exact lz.2.2.2.2.2.2.2.1 | exact lz.2.2.2.2.2.2.2.2.1 | exact lz.2.2.2.2.2.2.2.2.2.1 | exact lz.2.2.2.2.2.2.2.2.2.2.1 | exact lz.2.2.2.2.2.2.2.2.2.2.2.1))) rfl

theorem minor1_code {w : World} {A : Around} {s : Shared} {R : Result → Shared → Prop} {ml m0 m1 ol e0 e1 n0 n1 tg2 ng : Nat} {b0 b1 : Bool} {k0 k1 k2 : Addr} {tm tn tg : Tok}
    (C : Rdy w A 4 s.heap [(ml, PySem.W.listOf #[.ref m0, .ref m1] e0), (m0, tupOf #[.str (PySem.Str.ofString "m") tm, .bool b0, .ref k0] n0), (m1, tupOf #[.str (PySem.Str.ofString "n") tn, .bool b1, .ref k1] n1), (ol, PySem.W.listOf #[.ref tg2] e1), (tg2, tupOf #[.str (PySem.Str.ofString "n") tg, .ref k2] ng)])
    (ret : ∀ (h' : Heap) (tk' l ep : Nat) (vs : List Value), Keep [] s.heap h' → h'.get? l = some (PySem.W.listOf vs.toArray ep) → s.heap.get? l = none → vs = (if b0 = true then [.ref k0] else []) ++ (if b1 = true then [.ref k2] else []) → R (.ok (.ret (.ref l))) { s with heap := h', toks := tk' }) :
    codeAny (model RP w) A (.call (.ref 203) ⟨[.ref ml, .ref ol], []⟩) R s := by
  refine' enterC (n := 3) (fun p => defAt p 29) (binds := [(PySem.Str.ofString "modes", .ref ml), (PySem.Str.ofString "overriding", .ref ol)]) (PySem.Str.ofString "minor_maps") C ?ho ?h1 ?h2 ?hq ?hcd ?hbind ?hkind ?hnd ?hco ?hgen ?hk ?_
  k_extra "my_enterC"
  intro A₁ g L' h₁ tk cells mean mg mb hg Rd F N Y X T
  have hL : @LE.le Nat _ s.heap.objs.size L' := by
    have := F.above
    rw [hg, hideAll_size] at this
    exact this
  have hC : ∀ p ∈ [(ml, PySem.W.listOf #[.ref m0, .ref m1] e0), (m0, tupOf #[.str (PySem.Str.ofString "m") tm, .bool b0, .ref k0] n0), (m1, tupOf #[.str (PySem.Str.ofString "n") tn, .bool b1, .ref k1] n1), (ol, PySem.W.listOf #[.ref tg2] e1), (tg2, tupOf #[.str (PySem.Str.ofString "n") tg, .ref k2] ng)], s.heap.get? p.1 = some p.2 := fun p hp => C.at hp
  have v1 : @LT.lt Nat _ ml s.heap.objs.size := nlt (C.at (.head _))
  have v2 : @LT.lt Nat _ m0 s.heap.objs.size := nlt (C.at (.tail _ (.head _)))
  have v3 : @LT.lt Nat _ m1 s.heap.objs.size := nlt (C.at (.tail _ (.tail _ (.head _))))
  have v4 : @LT.lt Nat _ ol s.heap.objs.size := nlt (C.at (.tail _ (.tail _ (.tail _ (.head _)))))
  have v5 : @LT.lt Nat _ tg2 s.heap.objs.size := nlt (C.at (.tail _ (.tail _ (.tail _ (.tail _ (.head _))))))
  clear C
  obtain ⟨ah, dp, ev, gd, un⟩ := A₁
  obtain rfl : ah = none := (Rd _ _ _ F N).handled
  obtain ⟨oc, rfl, hc⟩ := CellsAre.one Y
  simp only [List.cons_append, List.nil_append] at N
  cases b0 <;> cases b1 <;> k_steps
  · try dsimp only
    with_reducible rename Fr _ _ _ _ => F9
    with_reducible rename News _ _ _ _ => N9
    exact ret _ _ _ _ _ (keep_all hC hg F9 N9 (by simp only [List.forall_mem_cons]; exact ⟨by k_mem, by k_mem, by k_mem, by k_mem, by k_mem, List.forall_mem_nil _⟩)) (N9.get (by k_mem)) (fresh_hi hL (by first | (with_reducible rename _ < _ ∧ _ => lz; first | exact lz.1 | exact lz.2.1 | exact lz.2.2.1 | exact lz.2.2.2.1 | exact lz.2.2.2.2.1 | exact lz.2.2.2.2.2.1 | exact lz.2.2.2.2.2.2.1 | exact lz.2.2.2.2.2.2.2.1 | exact lz.2.2.2.2.2.2.2.2.1 | exact lz.2.2.2.2.2.2.2.2.2.1 | exact lz.2.2.2.2.2.2.2.2.2.2.1 | exact lz.2.2.2.2.2.2.2.2.2.2.2.1) | (with_reducible rename _ < _ ∧ _ => lz; clear lz; with_reducible rename _ < _ ∧ _ => lz; first | exact lz.1 | exact lz.2.1 | exact lz.2.2.1 | exact lz.2.2.2.1 | exact lz.2.2.2.2.1 | exact lz.2.2.2.2.2.1 | exact lz.2.2.2.2.2.2.1 | exact lz.2.2.2.2.2.2.2.1 | exact lz.2.2.2.2.2.2.2.2.1 | exact lz.2.2.2.2.2.2.2.2.2.1 | exact lz.2.2.2.2.2.2.2.2.2.2.1 | exact lz.2.2.2.2.2.2.2.2.2.2.2.1) | (with_reducible rename _ < _ ∧ _ => lz; clear lz; with_reducible rename _ < _ ∧ _ => lz; clear lz; with_reducible rename _ < _ ∧ _ => lz; first | exact lz.1 | exact lz.2.1 | exact lz.2.2.1 | exact lz.2.2.2.1 | exact lz.2.2.2.2.1 | exact lz.2.2.2.2.2.1 | exact lz.2.2.2.2.2.2.1 | exact lz.2.2.2.2.2.2.2.1 | exact lz.2.2.2.2.2.2.2.2.1 | exact lz.2.2.2.2.2.2.2.2.2.1 | exact lz.2.2.2.2.2.2.2.2.2.2.1 | exact lz.2.2.2.2.2.2.2.2.2.2.2.1) | (with_reducible rename _ < _ ∧ _ => lz; clear lz; with_reducible rename _ < _ ∧ _ => lz; clear lz; with_reducible rename _ < _ ∧ _ => lz; clear lz; with_reducible rename _ < _ ∧ _ => lz; first | exact lz.1 | exact lz.2.1 | exact lz.2.2.1 | exact lz.2.2.2.1 | exact lz.2.2.2.2.1 | exact lz.2.2.2.2.2.1 | exact lz.2.2.2.2.2.2.1 | exact lz.2.2.2.2.2.2.2.1 | exact lz.2.2.2.2.2.2.2.2.1 | exact lz.2.2.2.2.2.2.2.2.2.1 | exact lz.2.2.2.2.2.2.2.2.2.2.1 | exact lz.2.2.2.2.2.2.2.2.2.2.2.1) | (with_reducible rename _ < _ ∧ _ => lz; clear lz; with_reducible rename _ < _ ∧ _ => lz; clear lz; with_reducible rename _ < _ ∧ _ => lz; clear lz; with_reducible rename _ < _ ∧ _ => lz; clear lz; with_reducible rename _ < _ ∧ _ => lz; first | exact lz.1 | exact lz.2.1 | exact lz.2.2.1 | exact lz.2.2.2.1 | exact lz.2.2.2.2.1 | exact lz.2.2.2.2.2.1 | exact lz.2.2.2.2.2.2.1 | exact lz.2.2.2.2.2.2.2.1 | exact lz.2.2.2.2.2.2.2.2.1 | exact lz.2.2.2.2.2.2.2.2.2.1 | exact lz.2.2.2.2.2.2.2.2.2.2.1 | exact lz.2.2.2.2.2.2.2.2.2.2.2.1) | (with_reducible rename _ < _ ∧ _ => lz; clear lz; with_reducible rename _ < _ ∧ _ => lz; clear lz; with_reducible rename _ < _ ∧ _ => lz; clear lz; with_reducible rename _ < _ ∧ _ => lz; clear lz; with_reducible rename _ < _ ∧ _ => lz; clear lz; with_reducible rename _ < _ ∧ _ => lz; first | exact lz.1 | exact lz.2.1 | exact lz.2.2.1 | exact lz.2.2.2.1 | exact lz.2.2.2.2.1 | exact lz.2.2.2.2.2.1 | exact lz.2.2.2.2.2.2.1 | exact lz.2.2.2.2.2.2.2.1 | exact lz.2.2.2.2.2.2.2.2.1 | exact lz.2.2.2.2.2.2.2.2.2.1 | exact lz.2.2.2.2.2.2.2.2.2.2.1 | exact lz.2.2.2.2.2.2.2.2.2.2.2.1))) rfl
  · with_reducible rename Fr _ _ _ _ => F5
    with_reducible rename News _ _ _ _ => N5
    rename (Obj.data _ = Data.cell (some _)) => hc5
    refine Stop.go ?_
    k_unmd; try k_fold
    refine assign_T (cl := [(PySem.Str.ofString "name", L' + 1)]) rfl ?hsw ?hclos ?hcell ?hkind ?hnames ?hx ?hx2 ?hxx ?hy ?hp ?hs ?_
    case hsw => with_unfolding_all rfl
    case hclos => with_unfolding_all rfl
    case hcell => decide
    case hkind => exact rfl
    case hnames => decide
    case hx => exact rfl
    case hx2 => exact rfl
    case hxx => decide
    case hy => exact rfl
    case hp => exact rfl
    case hs => intro _; with_unfolding_all rfl
    k_steps
    refine Stop.go ?_
    refine BlkTA.pairs (vs := [.ref tg2]) (ep := e1) rfl F5 (fun i ys => ys = (if i = 0 then [] else [.ref k2])) (fun _ => tg2) (fun _ => (.str (PySem.Str.ofString "n") tg, .ref k2)) (N5.get (by k_mem)) (by rw [sizeLine_eq]; exact Nat.le_of_ble_eq_true rfl) ?hit ?htu (by simp) ?turn ?done
    case hit => exact fun j hj => by obtain rfl : j = 0 := Nat.lt_one_iff.mp hj; rfl
    case htu => exact fun j hj => ⟨_, (N5 (tg2, tupOf #[.str (PySem.Str.ofString "n") tg, .ref k2] ng) (by k_mem)).1, rfl, _, rfl⟩
    case turn =>
      intro i ys h6 tk6 m6 E6 hi hj6 hn6 hm6 hm7 kp6
      obtain rfl : i = 0 := Nat.lt_one_iff.mp hi
      subst hj6
      have hc6 : h6.IsCell (L' + 1) (some _) := ⟨_, kp6.all _ _ (News.get N5 (a := L' + 1) (by k_mem)), hc5⟩
      have F6 := Keep.fr kp6 F5
      have kt : Keep [] h6 h6 := Keep.refl _ _
      k_unmd; try k_fold
      refine tests_one ?_
      k_steps
      exact TEnd.mk kt rfl
    case done =>
      intro D h6 tk6 ys ep6 hD hl6 hDL hle hj F6 kp6
      replace hj : ys = [.ref k2] := hj
      subst hj
      have uD := news_off N5 hD
      have N6 := news_put N5 F5 kp6 hl6 hD hDL
      clear F5 N5 kp6 hl6 hD
      simp only [List.forall_mem_cons] at uD
      k_steps
      try dsimp only
      with_reducible rename Fr _ _ _ _ => F9
      with_reducible rename News _ _ _ _ => N9
      exact ret _ _ _ _ _ (keep_all hC hg F9 N9 (by simp only [List.forall_mem_cons]; exact ⟨by k_mem, by k_mem, by k_mem, by k_mem, by k_mem, List.forall_mem_nil _⟩)) (N9.get (by k_mem)) (fresh_hi hL (by first | (with_reducible rename _ < _ ∧ _ => lz; first | exact lz.1 | exact lz.2.1 | exact lz.2.2.1 | exact lz.2.2.2.1 | exact lz.2.2.2.2.1 | exact lz.2.2.2.2.2.1 | exact lz.2.2.2.2.2.2.1 | exact lz.2.2.2.2.2.2.2.1 | exact lz.2.2.2.2.2.2.2.2.1 | exact lz.2.2.2.2.2.2.2.2.2.1 | exact lz.2.2.2.2.2.2.2.2.2.2.1 | exact lz.2.2.2.2.2.2.2.2.2.2.2.1) | (with_reducible rename _ < _ ∧ _ => lz; clear lz; with_reducible rename _ < _ ∧ _ => lz; first | exact lz.1 | exact lz.2.1 | exact lz.2.2.1 | exact lz.2.2.2.1 | exact lz.2.2.2.2.1 | exact lz.2.2.2.2.2.1 | exact lz.2.2.2.2.2.2.1 | exact lz.2.2.2.2.2.2.2.1 | exact lz.2.2.2.2.2.2.2.2.1 | exact lz.2.2.2.2.2.2.2.2.2.1 | exact lz.2.2.2.2.2.2.2.2.2.2.1 | exact lz.2.2.2.2.2.2.2.2.2.2.2.1) | (with_reducible rename _ < _ ∧ _ => lz; clear lz; with_reducible rename _ < _ ∧ _ => lz; clear lz; with_reducible rename _ < _ ∧ _ => lz; first | exact lz.1 | exact lz.2.1 | exact lz.2.2.1 | exact lz.2.2.2.1 | exact lz.2.2.2.2.1 | exact lz.2.2.2.2.2.1 | exact lz.2.2.2.2.2.2.1 | exact lz.2.2.2.2.2.2.2.1 | exact lz.2.2.2.2.2.2.2.2.1 | exact lz.2.2.2.2.2.2.2.2.2.1 | exact lz.2.2.2.2.2.2.2.2.2.2.1 | exact lz.2.2.2.2.2.2.2.2.2.2.2.1) | (with_reducible rename _ < _ ∧ _ => lz; clear lz; with_reducible rename _ < _ ∧ _ => lz; clear lz; with_reducible rename _ < _ ∧ _ => lz; clear lz; with_reducible rename _ < _ ∧ _ => lz; first | exact lz.1 | exact lz.2.1 | exact lz.2.2.1 | exact lz.2.2.2.1 | exact lz.2.2.2.2.1 | exact lz.2.2.2.2.2.1 | exact lz.2.2.2.2.2.2.1 | exact lz.2.2.2.2.2.2.2.1 | exact lz.2.2.2.2.2.2.2.2.1 | exact lz.2.2.2.2.2.2.2.2.2.1 | exact lz.2.2.2.2.2.2.2.2.2.2.1 | exact lz.2.2.2.2.2.2.2.2.2.2.2.1) | (with_reducible rename _ < _ ∧ _ => lz; clear lz; with_reducible rename _ < _ ∧ _ => lz; clear lz; with_reducible rename _ < _ ∧ _ => lz; clear lz; with_reducible rename _ < _ ∧ _ => lz; clear lz; with_reducible rename _ < _ ∧ _ => lz; first | exact lz.1 | exact lz.2.1 | exact lz.2.2.1 | exact lz.2.2.2.1 | exact lz.2.2.2.2.1 | exact lz.2.2.2.2.2.1 | exact lz.2.2.2.2.2.2.1 | exact lz.2.2.2.2.2.2.2.1 | exact lz.2.2.2.2.2.2.2.2.1 | exact lz.2.2.2.2.2.2.2.2.2.1 | exact lz.2.2.2.2.2.2.2.2.2.2.1 | exact lz.2.2.2.2.2.2.2.2.2.2.2.1) | (with_reducible rename _ < _ ∧ _ => lz; clear lz; with_reducible rename _ < _ ∧ _ => lz; clear lz; with_reducible rename _ < _ ∧ _ => lz; clear lz; with_reducible rename _ < _ ∧ _ => lz; clear lz; with_reducible rename _ < _ ∧ _ => lz; clear lz; with_reducible rename _ < _ ∧ _ => lz; first | exact lz.1 | exact lz.2.1 | exact lz.2.2.1 | exact lz.2.2.2.1 | exact lz.2.2.2.2.1 | exact lz.2.2.2.2.2.1 | exact lz.2.2.2.2.2.2.1 | exact lz.2.2.2.2.2.2.2.1 | exact lz.2.2.2.2.2.2.2.2.1 | exact lz.2.2.2.2.2.2.2.2.2.1 | exact lz.2.2.2.2.2.2.2.2.2.2.1 | exact lz.2.2.2.2.2.2.2.2.2.2.2.1))) rfl
  · with_reducible rename Fr _ _ _ _ => F5
    with_reducible rename News _ _ _ _ => N5
    rename (Obj.data _ = Data.cell (some _)) => hc5
    refine Stop.go ?_
    k_unmd; try k_fold
    refine assign_T (cl := [(PySem.Str.ofString "name", L' + 1)]) rfl ?hsw ?hclos ?hcell ?hkind ?hnames ?hx ?hx2 ?hxx ?hy ?hp ?hs ?_
    case hsw => with_unfolding_all rfl
    case hclos => with_unfolding_all rfl
    case hcell => decide
    case hkind => exact rfl
    case hnames => decide
    case hx => exact rfl
    case hx2 => exact rfl
    case hxx => decide
    case hy => exact rfl
    case hp => exact rfl
    case hs => intro _; with_unfolding_all rfl
    k_steps
    refine Stop.go ?_
    refine BlkTA.pairs (vs := [.ref tg2]) (ep := e1) rfl F5 (fun _ ys => ys = []) (fun _ => tg2) (fun _ => (.str (PySem.Str.ofString "n") tg, .ref k2)) (N5.get (by k_mem)) (by rw [sizeLine_eq]; exact Nat.le_of_ble_eq_true rfl) ?hit ?htu (by simp) ?turn ?done
    case hit => exact fun j hj => by obtain rfl : j = 0 := Nat.lt_one_iff.mp hj; rfl
    case htu => exact fun j hj => ⟨_, (N5 (tg2, tupOf #[.str (PySem.Str.ofString "n") tg, .ref k2] ng) (by k_mem)).1, rfl, _, rfl⟩
    case turn =>
      intro i ys h6 tk6 m6 E6 hi hj6 hn6 hm6 hm7 kp6
      obtain rfl : i = 0 := Nat.lt_one_iff.mp hi
      subst hj6
      have hc6 : h6.IsCell (L' + 1) (some _) := ⟨_, kp6.all _ _ (News.get N5 (a := L' + 1) (by k_mem)), hc5⟩
      have F6 := Keep.fr kp6 F5
      have kt : Keep [] h6 h6 := Keep.refl _ _
      k_unmd; try k_fold
      refine tests_one ?_
      k_steps
      exact TEnd.mk kt rfl
    case done =>
      intro D h6 tk6 ys ep6 hD hl6 hDL hle hj F6 kp6
      subst hj
      have uD := news_off N5 hD
      have N6 := news_put N5 F5 kp6 hl6 hD hDL
      clear F5 N5 kp6 hl6 hD
      simp only [List.forall_mem_cons] at uD
      k_steps
      try dsimp only
      with_reducible rename Fr _ _ _ _ => F9
      with_reducible rename News _ _ _ _ => N9
      exact ret _ _ _ _ _ (keep_all hC hg F9 N9 (by simp only [List.forall_mem_cons]; exact ⟨by k_mem, by k_mem, by k_mem, by k_mem, by k_mem, List.forall_mem_nil _⟩)) (N9.get (by k_mem)) (fresh_hi hL (by first | (with_reducible rename _ < _ ∧ _ => lz; first | exact lz.1 | exact lz.2.1 | exact lz.2.2.1 | exact lz.2.2.2.1 | exact lz.2.2.2.2.1 | exact lz.2.2.2.2.2.1 | exact lz.2.2.2.2.2.2.1 | exact lz.2.2.2.2.2.2.2.1 | exact lz.2.2.2.2.2.2.2.2.1 | exact lz.2.2.2.2.2.2.2.2.2.1 | exact lz.2.2.2.2.2.2.2.2.2.2.1 | exact lz.2.2.2.2.2.2.2.2.2.2.2.1) | (with_reducible rename _ < _ ∧ _ => lz; clear lz; with_reducible rename _ < _ ∧ _ => lz; first | exact lz.1 | exact lz.2.1 | exact lz.2.2.1 | exact lz.2.2.2.1 | exact lz.2.2.2.2.1 | exact lz.2.2.2.2.2.1 | exact lz.2.2.2.2.2.2.1 | exact lz.2.2.2.2.2.2.2.1 | exact lz.2.2.2.2.2.2.2.2.1 | exact lz.2.2.2.2.2.2.2.2.2.1 | exact lz.2.2.2.2.2.2.2.2.2.2.1 | exact lz.2.2.2.2.2.2.2.2.2.2.2.1) | (with_reducible rename _ < _ ∧ _ => lz; clear lz; with_reducible rename _ < _ ∧ _ => lz; clear lz; with_reducible rename _ < _ ∧ _ => lz; first | exact lz.1 | exact lz.2.1 | exact lz.2.2.1 | exact lz.2.2.2.1 | exact lz.2.2.2.2.1 | exact lz.2.2.2.2.2.1 | exact lz.2.2.2.2.2.2.1 | exact lz.2.2.2.2.2.2.2.1 | exact lz.2.2.2.2.2.2.2.2.1 | exact lz.2.2.2.2.2.2.2.2.2.1 | exact lz.2.2.2.2.2.2.2.2.2.2.1 | exact lz.2.2.2.2.2.2.2.2.2.2.2.1) | (with_reducible rename _ < _ ∧ _ => lz; clear lz; with_reducible rename _ < _ ∧ _ => lz; clear lz; with_reducible rename _ < _ ∧ _ => lz; clear lz; with_reducible rename _ < _ ∧ _ => lz; first | exact lz.1 | exact lz.2.1 | exact lz.2.2.1 | exact lz.2.2.2.1 | exact lz.2.2.2.2.1 | exact lz.2.2.2.2.2.1 | exact lz.2.2.2.2.2.2.1 | exact lz.2.2.2.2.2.2.2.1 | exact lz.2.2.2.2.2.2.2.2.1 | exact lz.2.2.2.2.2.2.2.2.2.1 | exact lz.2.2.2.2.2.2.2.2.2.2.1 | exact lz.2.2.2.2.2.2.2.2.2.2.2.1) | (with_reducible rename _ < _ ∧ _ => lz; clear lz; with_reducible rename _ < _ ∧ _ => lz; clear lz; with_reducible rename _ < _ ∧ _ => lz; clear lz; with_reducible rename _ < _ ∧ _ => lz; clear lz; with_reducible rename _ < _ ∧ _ => lz; first | exact lz.1 | exact lz.2.1 | exact lz.2.2.1 | exact lz.2.2.2.1 | exact lz.2.2.2.2.1 | exact lz.2.2.2.2.2.1 | exact lz.2.2.2.2.2.2.1 | exact lz.2.2.2.2.2.2.2.1 | exact lz.2.2.2.2.2.2.2.2.1 | exact lz.2.2.2.2.2.2.2.2.2.1 | exact lz.2.2.2.2.2.2.2.2.2.2.1 | exact lz.2.2.2.2.2.2.2.2.2.2.2.1) | (with_reducible rename _ < _ ∧ _ => lz; clear lz; with_reducible rename _ < _ ∧ _ => lz; clear lz; with_reducible rename _ < _ ∧ _ => lz; clear lz; with_reducible rename _ < _ ∧ _ => lz; clear lz; with_reducible rename _ < _ ∧ _ => lz; clear lz; with_reducible rename _ < _ ∧ _ => lz; first | exact lz.1 | exact lz.2.1 | exact lz.2.2.1 | exact lz.2.2.2.1 | exact lz.2.2.2.2.1 | exact lz.2.2.2.2.2.1 | exact lz.2.2.2.2.2.2.1 | exact lz.2.2.2.2.2.2.2.1 | exact lz.2.2.2.2.2.2.2.2.1 | exact lz.2.2.2.2.2.2.2.2.2.1 | exact lz.2.2.2.2.2.2.2.2.2.2.1 | exact lz.2.2.2.2.2.2.2.2.2.2.2.1))) rfl
  · with_reducible rename Fr _ _ _ _ => F5
    with_reducible rename News _ _ _ _ => N5
    rename (Obj.data _ = Data.cell (some _)) => hc5
    refine Stop.go ?_
    k_unmd; try k_fold
    refine assign_T (cl := [(PySem.Str.ofString "name", L' + 1)]) rfl ?hsw ?hclos ?hcell ?hkind ?hnames ?hx ?hx2 ?hxx ?hy ?hp ?hs ?_
    case hsw => with_unfolding_all rfl
    case hclos => with_unfolding_all rfl
    case hcell => decide
    case hkind => exact rfl
    case hnames => decide
    case hx => exact rfl
    case hx2 => exact rfl
    case hxx => decide
    case hy => exact rfl
    case hp => exact rfl
    case hs => intro _; with_unfolding_all rfl
    k_steps
    refine Stop.go ?_
    refine BlkTA.pairs (vs := [.ref tg2]) (ep := e1) rfl F5 (fun _ ys => ys = []) (fun _ => tg2) (fun _ => (.str (PySem.Str.ofString "n") tg, .ref k2)) (N5.get (by k_mem)) (by rw [sizeLine_eq]; exact Nat.le_of_ble_eq_true rfl) ?hit ?htu (by simp) ?turn ?done
    case hit => exact fun j hj => by obtain rfl : j = 0 := Nat.lt_one_iff.mp hj; rfl
    case htu => exact fun j hj => ⟨_, (N5 (tg2, tupOf #[.str (PySem.Str.ofString "n") tg, .ref k2] ng) (by k_mem)).1, rfl, _, rfl⟩
    case turn =>
      intro i ys h6 tk6 m6 E6 hi hj6 hn6 hm6 hm7 kp6
      obtain rfl : i = 0 := Nat.lt_one_iff.mp hi
      subst hj6
      have hc6 : h6.IsCell (L' + 1) (some _) := ⟨_, kp6.all _ _ (News.get N5 (a := L' + 1) (by k_mem)), hc5⟩
      have F6 := Keep.fr kp6 F5
      have kt : Keep [] h6 h6 := Keep.refl _ _
      k_unmd; try k_fold
      refine tests_one ?_
      k_steps
      exact TEnd.mk kt rfl
    case done =>
      intro D h6 tk6 ys ep6 hD hl6 hDL hle hj F6 kp6
      subst hj
      have uD := news_off N5 hD
      have N6 := news_put N5 F5 kp6 hl6 hD hDL
      clear F5 N5 kp6 hl6 hD
      simp only [List.forall_mem_cons] at uD
      k_steps
      with_reducible rename Fr _ _ _ _ => F5
      with_reducible rename News _ _ _ _ => N5
      rename (Obj.data _ = Data.cell (some _)) => hc5
      refine Stop.go ?_
      k_unmd; try k_fold
      refine assign_T (cl := [(PySem.Str.ofString "name", L' + 1)]) rfl ?hsw ?hclos ?hcell ?hkind ?hnames ?hx ?hx2 ?hxx ?hy ?hp ?hs ?_
      case hsw => with_unfolding_all rfl
      case hclos => with_unfolding_all rfl
      case hcell => decide
      case hkind => exact rfl
      case hnames => decide
      case hx => exact rfl
      case hx2 => exact rfl
      case hxx => decide
      case hy => exact rfl
      case hp => exact rfl
      case hs => intro _; with_unfolding_all rfl
      k_steps
      refine Stop.go ?_
      refine BlkTA.pairs (vs := [.ref tg2]) (ep := e1) rfl F5 (fun i ys => ys = (if i = 0 then [] else [.ref k2])) (fun _ => tg2) (fun _ => (.str (PySem.Str.ofString "n") tg, .ref k2)) (N5.get (by k_mem)) (by rw [sizeLine_eq]; exact Nat.le_of_ble_eq_true rfl) ?hit ?htu (by simp) ?turn ?done
      case hit => exact fun j hj => by obtain rfl : j = 0 := Nat.lt_one_iff.mp hj; rfl
      case htu => exact fun j hj => ⟨_, (N5 (tg2, tupOf #[.str (PySem.Str.ofString "n") tg, .ref k2] ng) (by k_mem)).1, rfl, _, rfl⟩
      case turn =>
        intro i ys h6 tk6 m6 E6 hi hj6 hn6 hm6 hm7 kp6
        obtain rfl : i = 0 := Nat.lt_one_iff.mp hi
        subst hj6
        have hc6 : h6.IsCell (L' + 1) (some _) := ⟨_, kp6.all _ _ (News.get N5 (a := L' + 1) (by k_mem)), hc5⟩
        have F6 := Keep.fr kp6 F5
        have kt : Keep [] h6 h6 := Keep.refl _ _
        k_unmd; try k_fold
        refine tests_one ?_
        k_steps
        exact TEnd.mk kt rfl
      case done =>
        intro D h6 tk6 ys ep6 hD hl6 hDL hle hj F6 kp6
        replace hj : ys = [.ref k2] := hj
        subst hj
        have uD := news_off N5 hD
        have N6 := news_put N5 F5 kp6 hl6 hD hDL
        clear F5 N5 kp6 hl6 hD
        simp only [List.forall_mem_cons] at uD
        k_steps
        try dsimp only
        with_reducible rename Fr _ _ _ _ => F9
        with_reducible rename News _ _ _ _ => N9
        exact ret _ _ _ _ _ (keep_all hC hg F9 N9 (by simp only [List.forall_mem_cons]; exact ⟨by k_mem, by k_mem, by k_mem, by k_mem, by k_mem, List.forall_mem_nil _⟩)) (N9.get (by k_mem)) (fresh_hi hL (by first | (with_reducible rename _ < _ ∧ _ => lz; first | exact lz.1 | exact lz.2.1 | exact lz.2.2.1 | exact lz.2.2.2.1 | exact lz.2.2.2.2.1 | exact lz.2.2.2.2.2.1 | exact lz.2.2.2.2.2.2.1 | exact lz.2.2.2.2.2.2.2.1 | exact lz.2.2.2.2.2.2.2.2.1 | exact lz.2.2.2.2.2.2.2.2.2.1 | exact lz.2.2.2.2.2.2.2.2.2.2.1 | exact lz.2.2.2.2.2.2.2.2.2.2.2.1) | (with_reducible rename _ < _ ∧ _ => lz; clear lz; with_reducible rename _ < _ ∧ _ => lz; first | exact lz.1 | exact lz.2.1 | exact lz.2.2.1 | exact lz.2.2.2.1 | exact lz.2.2.2.2.1 | exact lz.2.2.2.2.2.1 | exact lz.2.2.2.2.2.2.1 | exact lz.2.2.2.2.2.2.2.1 | exact lz.2.2.2.2.2.2.2.2.1 | exact lz.2.2.2.2.2.2.2.2.2.1 | exact lz.2.2.2.2.2.2.2.2.2.2.1 | exact lz.2.2.2.2.2.2.2.2.2.2.2.1) | (with_reducible rename _ < _ ∧ _ => lz; clear lz; with_reducible rename _ < _ ∧ _ => lz; clear lz; with_reducible rename _ < _ ∧ _ => lz; first | exact lz.1 | exact lz.2.1 | exact lz.2.2.1 | exact lz.2.2.2.1 | exact lz.2.2.2.2.1 | exact lz.2.2.2.2.2.1 | exact lz.2.2.2.2.2.2.1 | exact lz.2.2.2.2.2.2.2.1 | exact lz.2.2.2.2.2.2.2.2.1 | exact lz.2.2.2.2.2.2.2.2.2.1 | exact lz.2.2.2.2.2.2.2.2.2.2.1 | exact lz.2.2.2.2.2.2.2.2.2.2.2.1) | (with_reducible rename _ < _ ∧ _ => lz; clear lz; with_reducible rename _ < _ ∧ _ => lz; clear lz; with_reducible rename _ < _ ∧ _ => lz; clear lz; with_reducible rename _ < _ ∧ _ => lz; first | exact lz.1 | exact lz.2.1 | exact lz.2.2.1 | exact lz.2.2.2.1 | exact lz.2.2.2.2.1 | exact lz.2.2.2.2.2.1 | exact lz.2.2.2.2.2.2.1 | exact lz.2.2.2.2.2.2.2.1 | exact lz.2.2.2.2.2.2.2.2.1 | exact lz.2.2.2.2.2.2.2.2.2.1 | exact lz.2.2.2.2.2.2.2.2.2.2.1 | exact lz.2.2.2.2.2.2.2.2.2.2.2.1) | (with_reducible rename _ < _ ∧ _ => lz; clear lz; with_reducible rename _ < _ ∧ _ => lz; clear lz; with_reducible rename _ < _ ∧ _ => lz; clear lz; with_reducible rename _ < _ ∧ _ => lz; clear lz; with_reducible rename _ < _ ∧ _ => lz; first | exact lz.1 | exact lz.2.1 | exact lz.2.2.1 | exact lz.2.2.2.1 | exact lz.2.2.2.2.1 | exact lz.2.2.2.2.2.1 | exact lz.2.2.2.2.2.2.1 | exact lz.2.2.2.2.2.2.2.1 | exact lz.2.2.2.2.2.2.2.2.1 | exact lz.2.2.2.2.2.2.2.2.2.1 | exact lz.2.2.2.2.2.2.2.2.2.2.1 | exact lz.2.2.2.2.2.2.2.2.2.2.2.1) | (with_reducible rename _ < _ ∧ _ => lz; clear lz; with_reducible rename _ < _ ∧ _ => lz; clear lz; with_reducible rename _ < _ ∧ _ => lz; clear lz; with_reducible rename _ < _ ∧ _ => lz; clear lz; with_reducible rename _ < _ ∧ _ => lz; clear lz; with_reducible rename _ < _ ∧ _ => lz; first | exact lz.1 | exact lz.2.1 | exact lz.2.2.1 | exact lz.2.2.2.1 | exact lz.2.2.2.2.1 | exact lz.2.2.2.2.2.1 | exact lz.2.2.2.2.2.2.1 | exact lz.2.2.2.2.2.2.2.1 | exact lz.2.2.2.2.2.2.2.2.1 | exact lz.2.2.2.2.2.2.2.2.2.1 | exact lz.2.2.2.2.2.2.2.2.2.2.1 | exact lz.2.2.2.2.2.2.2.2.2.2.2.1))) rfl
noncomputable def vO : Option Addr → Value
  | none => .none
  | some a => .ref a
noncomputable def lO : Option Addr → List Value
  | none => []
  | some a => [.ref a]

theorem actmaps_code {w : World} {A : Around} {s : Shared} {R : Result → Shared → Prop} {ap em mi ea ee ei : Nat} {va vm : List Value} {ov lo gl : Option Addr}
    (C : Rdy w A 3 s.heap []) (ha : s.heap.get? ap = some (PySem.W.listOf va.toArray ea)) (he : s.heap.get? em = some (PySem.W.listOf #[] ee)) (hm : s.heap.get? mi = some (PySem.W.listOf vm.toArray ei)) (hza : va.length ≤ 9) (hzm : vm.length ≤ 9)
    (ret : ∀ (h' : Heap) (tk' l ep : Nat) (vs : List Value), Keep [] s.heap h' → h'.get? l = some (PySem.W.listOf vs.toArray ep) → s.heap.get? l = none → vs = (match ov with | some o => [.ref o] ++ lO gl | none => va ++ vm ++ lO lo ++ lO gl) → R (.ok (.ret (.ref l))) { s with heap := h', toks := tk' }) :
    codeAny (model RP w) A (.call (.ref 210) ⟨[vO ov, .ref ap, .ref em, .ref mi, vO lo, vO gl], []⟩) R s := by
  refine' enter (n := 2) (fun p => defAt p 30) (binds := [(PySem.Str.ofString "overriding", vO ov), (PySem.Str.ofString "at_point", .ref ap), (PySem.Str.ofString "emulation", .ref em), (PySem.Str.ofString "minor", .ref mi), (PySem.Str.ofString "local", vO lo), (PySem.Str.ofString "global_map", vO gl)]) (PySem.Str.ofString "active_maps") C ?ho ?h1 ?h2 ?hq ?hcd ?hbind ?hloc ?hco ?hgen ?hk ?hcell ?_
  k_extra "my_enter"
  intro A₁ g L' h₁ tk mean mg mb hg Rd F N X T
  obtain rfl : g = s.heap := hg
  clear C
  obtain ⟨ah, dp, ev, gd, un⟩ := A₁
  obtain rfl : ah = none := (Rd _ _ _ F N).handled
  have hza' : va.toArray.size ≤ sizeLine := by rw [sizeLine_eq, List.size_toArray]; omega
  have hzm' : vm.toArray.size ≤ sizeLine := by rw [sizeLine_eq, List.size_toArray]; omega
  have hze' : (#[] : Array Value).size ≤ sizeLine := by rw [sizeLine_eq]; exact Nat.le_of_ble_eq_true rfl
  cases ov <;> cases lo <;> cases gl <;> (dsimp only [vO] at F; k_steps)
  all_goals (
    try dsimp only
    with_reducible rename Fr _ _ _ _ => F9
    with_reducible rename News _ _ _ _ => N9
    exact ret _ _ _ _ _ (Keep.of_all F9.keep) (N9 _ (.head _)).1 (N9.fresh (.head _)) (by simp [lO]))

theorem akinit_code {w : World} {A : Around} {s : Shared} {R : Result → Shared → Prop} {x dx ml : Addr}
    (C : Rdy w A 3 s.heap [(x, instObj 234 dx), (dx, dictOf [] 0)]) (hlt : @LT.lt Nat _ dx x)
    (ret : ∀ (h' : Heap) (tk' : Nat) (h1 : Int) (t1 : Tok), Keep [dx] s.heap h' → h'.get? dx = some (dictOf [⟨h1, .str (PySem.Str.ofString "maps") t1, .ref ml⟩] 1) → R (.ok (.ret .none)) { s with heap := h', toks := tk' }) :
    codeAny (model RP w) A (.call (.ref 224) ⟨[.ref x, .ref ml], []⟩) R s := by
  have hx0 : s.heap.get? x = some (instObj 234 dx) := C.at (p := (x, instObj 234 dx)) (.head _)
  refine' enter (n := 2) (fun p => methAt p 31 0) (binds := [(PySem.Str.ofString "self", .ref x), (PySem.Str.ofString "maps", .ref ml)]) (PySem.Str.ofString "ActiveKeys.__init__") C ?ho ?h1 ?h2 ?hq ?hcd ?hbind ?hloc ?hco ?hgen ?hk ?hcell ?_
  k_extra "my_enter"
  intro A₁ g L' h₁ tk mean mg mb hg Rd F N X T
  clear C
  obtain ⟨ah, dp, ev, gd, un⟩ := A₁
  obtain rfl : ah = none := (Rd _ _ _ F N).handled
  k_steps
  try dsimp only
  with_reducible rename Fr _ _ _ _ => F9
  with_reducible rename News _ _ _ _ => N9
  have hk : Keep [dx] s.heap _ := fun b o hb e => by
    by_cases q : b = x
    · rw [q] at e ⊢
      rw [hx0] at e
      cases e
      exact N9.get (by k_mem)
    · exact keep_of_fr hg F9 b o (by simpa using ⟨q, by simpa using hb⟩) e
  exact ret _ _ _ _ hk (N9.get (by k_mem))

/-- ActiveKeys(maps) -/
theorem new_ak {w : World} {A : Around} {E : Value → Shared → Prop} {s : Shared} {h₀ : Heap} {L ml : Addr} {m : Str → Option Value} {news : List (Addr × Obj)} {Q : Value → Shared → Prop} {n : Nat}
    (F : Fr h₀ L s.heap m) (N : News h₀ L s.heap news) (X : (KK w.params).In h₀) (hn : 4 ≤ n) (Rd : ∀ (h' : Heap) (m' : Str → Option Value) (nw : List (Addr × Obj)), Fr h₀ L h' m' → News h₀ L h' nw → Rdy w A n h' nw)
    (h : ∀ x dx h' tk' (h1 : Int) (t1 : Tok), Fr h₀ L h' m → News h₀ L h' ((x, instObj 234 dx) :: (dx, dictOf [⟨h1, .str (PySem.Str.ofString "maps") t1, .ref ml⟩] 1) :: news) →
      (∀ p ∈ news, p.1 < dx) → @LT.lt Nat _ dx x → Q (.ref x) { s with heap := h', toks := tk' }) :
    wpAny (model RP w) A (call (.ref 234) [.ref ml] []) Q E s := by
  refine' call_cls (fI := 224) F X N ?k4 ?k5 ?k6 ?_
  case k4 => k_is
  case k5 => k_is
  case k6 => k_is
  intro x dx h' F' N' l1 l2
  refine akinit_code (Rdy.under (Rdy.le (Rd _ _ _ F' (News.sub N' (nw := [(x, instObj 234 dx), (dx, dictOf [] 0)]) ?_)) hn)) l2 ?_
  · intro p hp
    rcases List.mem_cons.mp hp with rfl | hp
    · exact .head _
    · rw [List.mem_singleton.mp hp]; exact .tail _ (.head _)
  intro h'' tk h1 t1 kp hdx
  have U : UpdF dx (dictOf [] 0) ((x, instObj 234 dx) :: (dx, dictOf [] 0) :: news) _ := .tail (Nat.ne_of_gt l2) (.head fun p hp => Nat.ne_of_lt (l1 p hp))
  obtain ⟨F2, N2⟩ := keep_put F' N' U kp hdx
  exact ⟨rfl, h x dx h'' tk h1 t1 F2 N2 l1 l2⟩
/-- as CompJ; a turn is told that the list, and what the iterator needs (lv), stand -/
structure CompR (w : World) (A : Around) (env : Env) (scope : Scope) (cl : List (Str × Addr)) (x : Str) (ifs : List Expr) (elt : Expr) (wr W lv : List Addr) (n : Nat) (P : Nat → Value → Prop)
    (J : Nat → List Value → Heap → Prop) (s₂ : Shared) : Prop where
  old : ∀ b ∈ W, b < s₂.heap.objs.size
  stay : ∀ i ys h h', J i ys h → (∀ (b : Nat) o, b ∉ wr → b < s₂.heap.objs.size ∨ s₂.heap.objs.size + 2 ≤ b → h.get? b = some o → h'.get? b = some o) → J i ys h'
  start : J 0 [] s₂.heap
  turn : ∀ i v ys s₃ m₃ E', (∃ h tk, s₃ = { s₂ with heap := h, toks := tk }) → i < n → P i v → J i ys s₃.heap → s₃.heap.Ns (s₂.heap.objs.size + 1) m₃ → m₃ x = some v → (∃ o, s₃.heap.get? s₂.heap.objs.size = some o) → (∀ b ∈ lv, ∃ o, s₃.heap.get? b = some o) →
    (∀ b o, b ∉ wr → b ∉ W → s₂.heap.get? b = some o → s₃.heap.get? b = some o) →
    wpAny (model RP w) A (forIn ifs true fun c r => if r = true then do let ok ← isTrue c (compEnvC scope cl (s₂.heap.objs.size + 1) env) (eval c (compEnvC scope cl (s₂.heap.objs.size + 1) env)); pure (ForInStep.yield ok) else pure (ForInStep.yield r))
      (fun ok s₄ => if ok = true then
          wpAny (model RP w) A (eval elt (compEnvC scope cl (s₂.heap.objs.size + 1) env)) (fun y s₅ => TEnd s₂ W s₃.heap (J (i + 1) (ys ++ [y])) s₅) E' s₄
        else TEnd s₂ W s₃.heap (J (i + 1) ys) s₄) E' s₃

theorem comp_block_R {w : World} {A : Around} {E : Value → Shared → Prop} {env : Env} {elt iter : Expr} {x : Str} {px : Pos} {ifs : List Expr} {scope : Scope} {cl : List (Str × Addr)} {pos : Pos} {s₂ : Shared} {I : Addr} {fp wr W lv : List Addr} {n : Nat} {P : Nat → Value → Prop}
    {St : Nat → Heap → Prop} {J : Nat → List Value → Heap → Prop} {RR : Value → Addr → Result → Shared → Prop} (Wk : Walks RP w A I fp wr n P St) (hsz : n ≤ sizeLine)
    (hcell : ∀ y ∈ scope.names, y.2 ≠ .cell) (hkind : scope.kind = .function) (hx : scope.names.lookup x = some .local) (hst : St 0 s₂.heap) (hfp : ∀ b ∈ fp, b < s₂.heap.objs.size) (hWf : ∀ b ∈ W, b ∉ fp) (hlv : ∀ i h, St i h → ∀ b ∈ lv, ∃ o, h.get? b = some o)
    (hq : CompR w A env scope cl x ifs elt wr W lv n P J s₂)
    (hRR : ∀ h' tk m' (ys : List Value) ep, h'.Ns (s₂.heap.objs.size + 1) m' → h'.get? s₂.heap.objs.size = some (PySem.W.listOf ys.toArray ep) → ys.length ≤ n → J n ys h' →
      (∀ b o, b ∉ wr → b ∉ W → s₂.heap.get? b = some o → h'.get? b = some o) → RR (.ref s₂.heap.objs.size) (s₂.heap.objs.size + 1) (.ok .next) { s₂ with heap := h', toks := tk }) :
    wpAny (model RP w) A (newList []) (fun acc s₃ => wpAny (model RP w) A (newFunctionEnv scope env.globals cl [] env.qual none .none (some env)) (fun cenv s₄ =>
      codeAny (model RP w) A (.compStart (.ListComp elt [⟨.Name x px, iter, ifs, 0⟩] scope pos) 0 (.ref I) acc { cenv with scope := relabel scope env }) (RR acc cenv.locals) s₄) E s₃) E s₂ := by
  refine wpAny_newObj_type (wpAny_newFunctionEnv hcell (by intro y hy; simp at hy) (fun h₁ hns₁ hsb₁ => ?_) hkind)
  dsimp only at hns₁ hsb₁ ⊢
  generalize hH2 : s₂.heap.push { cls := .type "list", dict := none, data := .seq ([] : List Value).toArray } = H2 at hns₁ hsb₁ ⊢
  have hC : H2.objs.size = s₂.heap.objs.size + 1 := by rw [← hH2, Heap.size_push]
  rw [hC] at hns₁ hsb₁
  have old : ∀ b o, s₂.heap.get? b = some o → h₁.get? b = some o := fun b o e => hsb₁.extBut b o (by have := nlt e; exact neN (by omega)) (Heap.get?_push_of_some _ (hH2 ▸ Heap.get?_push_of_some _ e))
  have hacc : h₁.get? s₂.heap.objs.size = some (PySem.W.listOf ([] : List Value).toArray 0) := hsb₁.extBut _ _ (neN (by omega)) (Heap.get?_push_of_some _ (hH2 ▸ Heap.get?_push_size _ rfl))
  have hst₁ : St 0 h₁ := Wk.frame _ _ _ hst fun b _ o e => old b o e
  have loop : ∀ s₃ : Shared, s₃ = { s₂ with heap := h₁, toks := s₂.toks + ([] : List (Str × Value)).length } →
      codeAny (model RP w) A (.compLoop (.ListComp elt [⟨.Name x px, iter, ifs, 0⟩] scope pos) 0 (.ref I) (.ref s₂.heap.objs.size) (compEnvC scope cl (s₂.heap.objs.size + 1) env))
        (RR (.ref s₂.heap.objs.size) (s₂.heap.objs.size + 1)) s₃ := by
    rintro s₃ rfl
    refine codeAny_compLoop_tests
      (fun k s' => ∃ h' tk m' i ep, ∃ ys : List Value, s' = { s₂ with heap := h', toks := tk } ∧ St i h' ∧ h'.get? s₂.heap.objs.size = some (PySem.W.listOf ys.toArray ep) ∧ h'.Ns (s₂.heap.objs.size + 1) m' ∧ J i ys h' ∧ ys.length ≤ i ∧ i ≤ n ∧ k = n + 1 - i ∧
        (∀ b o, b ∉ wr → b ∉ W → s₂.heap.get? b = some o → h'.get? b = some o)) ?_ (n + 1)
      ⟨h₁, _, _, 0, 0, [], rfl, hst₁, hacc, hns₁, hq.stay _ _ _ _ hq.start (fun b o _ _ e => old b o e), Nat.zero_le _, Nat.zero_le _, rfl, fun b o _ _ e => old b o e⟩
    rintro k s' ⟨H, tk, m', i, ep, ys, rfl, hst', hacc', hn', hJ, hle, hi, rfl, hk⟩
    have subwr : ∀ b ∈ wr, b < s₂.heap.objs.size := fun b hb => hfp b (Wk.sub b hb)
    have nD : s₂.heap.objs.size ∉ wr := fun hm => Nat.lt_irrefl _ (subwr _ hm)
    have nC : s₂.heap.objs.size + 1 ∉ wr := fun hm => Nat.lt_irrefl _ (Nat.lt_of_succ_lt (subwr _ hm))
    by_cases hlt : i < n
    · refine Wk.item i _ _ _ hlt hst' fun v h₂ tk₂ hPv hst₂ hk₂ => ?_
      refine wpAny_assign_Name (wpAny_storeName_local (lookup_relabel_local hx) (hn'.at' fun o e => hk₂ _ o nC e) (fun h₃ hn₃ hs₃ => ?_) (by simp [compEnvC, relabel, hkind]))
      have hn₃ : h₃.Ns (s₂.heap.objs.size + 1) _ := hn₃
      have hs₃ : Heap.SameBut (s₂.heap.objs.size + 1) h₂ h₃ := hs₃
      have up₃ : ∀ b o, b ∉ wr → b ≠ s₂.heap.objs.size + 1 → H.get? b = some o → h₃.get? b = some o := fun b o hb hc e => hs₃.extBut b o hc (hk₂ b o hb e)
      have hJ₃ : J i ys h₃ := hq.stay _ _ _ _ hJ fun b o hb hlo e => up₃ b o hb (neN (by omega)) e
      have hacc₃ := up₃ _ _ nD (neN (by omega)) hacc'
      have hst₃ : St (i + 1) h₃ := Wk.frame _ _ _ hst₂ fun b hb o e => hs₃.extBut b o (fun q => absurd (hfp b hb) (by rw [q]; exact Nat.not_lt.mpr (by omega))) e
      refine wpAny_mono (hq.turn i v ys { s₂ with heap := h₃, toks := _ } _ _ ⟨_, _, rfl⟩ hlt hPv hJ₃ hn₃ (by simp) ⟨_, hacc₃⟩ (hlv _ _ hst₃) (fun b o hb hW e => up₃ b o hb (by have := nlt e; exact neN (by omega)) (hk b o hb hW e))) (fun ok s₄ h₄ => ?_) fun _ _ e => e
      cases ok with
      | false =>
        simp only [Bool.false_eq_true, if_false] at h₄ ⊢
        obtain ⟨h₅, tk₅, rfl, hk₅, hJ₅⟩ := h₄
        have nW : ∀ b : Nat, s₂.heap.objs.size ≤ b → b ∉ W := fun b hb hm => Nat.lt_irrefl _ (Nat.lt_of_lt_of_le (hq.old b hm) hb)
        refine ⟨n + 1 - (i + 1), by omega, h₅, tk₅, _, i + 1, ep, ys, rfl, Wk.frame _ _ _ hst₃ fun b hb o e => hk₅ b o (fun hm => hWf b hm hb) e, hk₅ _ _ (nW _ (Nat.le_refl _)) hacc₃, hn₃.at' fun o e => hk₅ _ o (nW _ (Nat.le_succ _)) e, hJ₅, by omega, hlt, rfl,
          fun b o hb hW e => hk₅ b o hW (up₃ b o hb (by have := nlt e; exact neN (by omega)) (hk b o hb hW e))⟩
      | true =>
        simp only [if_true] at h₄ ⊢
        refine wpAny_mono h₄ (fun y s₅ h₅ => ?_) fun _ _ e => e
        obtain ⟨h₅, tk₅, rfl, hk₅, hJ₅⟩ := h₅
        have nW : ∀ b : Nat, s₂.heap.objs.size ≤ b → b ∉ W := fun b hb hm => Nat.lt_irrefl _ (Nat.lt_of_lt_of_le (hq.old b hm) hb)
        have hacc₅ := hk₅ _ _ (nW _ (Nat.le_refl _)) hacc₃
        have hys : ys.toArray.size ≤ sizeLine := by rw [List.size_toArray]; omega
        refine wpAny_list_append_plain (hsz := hys) ⟨ep, hacc₅⟩ fun h₆ hl₆ hs₆ => ?_
        obtain ⟨ep', hl₆⟩ := hl₆
        refine ⟨n + 1 - (i + 1), by omega, h₆, tk₅, (fun z => if z = x then some v else m' z), i + 1, ep', ys ++ [y], rfl, ?_, ?_, ?_, ?_, by simp; omega, hlt, rfl, ?_⟩
        · exact Wk.frame _ _ _ hst₃ fun b hb o e => hs₆.extBut b o (fun q => absurd (hfp b hb) (by rw [q]; exact Nat.not_lt.mpr (by omega))) (hk₅ b o (fun hm => hWf b hm hb) e)
        · rw [hl₆]; simp [PySem.W.listOf]
        · exact (hn₃.at' fun o e => hk₅ _ o (nW _ (Nat.le_succ _)) e).sameBut hs₆ (neN (by omega))
        · exact hq.stay _ _ _ _ hJ₅ fun b o hb hlo e => hs₆.extBut b o (neN (by omega)) e
        · exact fun b o hb hW e => hs₆.extBut b o (by have := nlt e; exact neN (by omega)) (hk₅ b o hW (up₃ b o hb (by have := nlt e; exact neN (by omega)) (hk b o hb hW e)))
    · have hin : i = n := by omega
      subst hin
      refine Wk.done _ _ _ hst' fun h₂ tk₂ hk₂ => ?_
      exact hRR h₂ tk₂ m' ys ep (hn'.at' fun o e => hk₂ _ o nC e) (hk₂ _ _ nD hacc') hle (hq.stay _ _ _ _ hJ fun b o hb _ e => hk₂ b o hb e) fun b o hb hW e => hk₂ b o hb (hk b o hb hW e)
  have hl := loop _ rfl
  rw [← hC] at hl
  exact codeAny_compStart_list hl (Wk.self 0 _ _ _ hst₁ hl)

/-- what is to be shown of the iterator, where the list goes into a local -/
noncomputable def BlkR (w : World) (A : Around) (env : Env) (scope : Scope) (cl : List (Str × Addr)) (x : Str) (ifs : List Expr) (elt : Expr) (y : Str) (Q : Flow → Shared → Prop) (it : Value) (s₂ : Shared) : Prop :=
  ∃ I fp wr n P St W lv J m, it = .ref I ∧ Walks RP w A I fp wr n P St ∧ n ≤ sizeLine ∧ St 0 s₂.heap ∧ (∀ b ∈ fp, b < s₂.heap.objs.size) ∧ (∀ b ∈ W, b ∉ fp) ∧ env.locals ∉ wr ∧ env.locals ∉ W ∧ s₂.heap.Ns env.locals m ∧
      (∀ i ys h h', J i ys h → (∀ b o, b ≠ env.locals → h.get? b = some o → h'.get? b = some o) → J i ys h') ∧
      (∀ i h, St i h → ∀ b ∈ lv, ∃ o, h.get? b = some o) ∧ CompR w A env scope cl x ifs elt wr W lv n P J s₂ ∧
      (∀ h' tk (ys : List Value) ep, h'.get? s₂.heap.objs.size = some (PySem.W.listOf ys.toArray ep) → ys.length ≤ n → J n ys h' → h'.Ns env.locals (fun z => if z = y then some (.ref s₂.heap.objs.size) else m z) →
        (∀ b o, b ≠ env.locals → b ∉ wr → b ∉ W → s₂.heap.get? b = some o → h'.get? b = some o) → Q .next { s₂ with heap := h', toks := tk })

/-- y = [elt for x in iter if ..] -/
theorem assign_R {w : World} {A : Around} {E : Value → Shared → Prop} {env : Env} {elt iter : Expr} {x y : Str} {px py : Pos} {ifs : List Expr} {scope : Scope} {cl : List (Str × Addr)} {pos spos : Pos} {s : Shared} {Q : Flow → Shared → Prop}
    (hsw : swapsWith (.ListComp elt [⟨.Name x px, iter, ifs, 0⟩] scope pos) (some (.Name y py)) spos.line env = pure true)
    (hclos : closureFor scope env = pure cl) (hcell : ∀ y ∈ scope.names, y.2 ≠ .cell) (hkind : scope.kind = .function)
    (hnames : ∀ y ∈ scope.names, y.2 = .local → scope.names.lookup y.1 = some .local) (hx : scope.names.lookup x = some .local)
    (hy : env.kindOf y = some .local) (hp : (env.scope.kind == .class || (env.scope.kind == .module && env.locals != env.globals)) = false)
    (hs : ∀ x, foldedSetIterable iter env x = pure x)
    (h : wpAny (model RP w) A (eval iter env) (fun xv s₁ => wpAny (model RP w) A (pyIter xv) (BlkR w A env scope cl x ifs elt y Q) E s₁) E s) :
    wpAny (model RP w) A (exec (.Assign [.Name y py] (.ListComp elt [⟨.Name x px, iter, ifs, 0⟩] scope pos) spos) env) Q E s := by
  rw [exec_Assign_Name_used _ _ _ _ hsw]
  refine wpAny_bind (wpAny_standAt (wpAny_bind ?_))
  show wpAny _ A (do let _ ← comprehension (.ListComp elt [⟨.Name x px, iter, ifs, 0⟩] scope pos) scope env _ (newList []) false (eval iter env) (some (assign (.Name y py) env))) _ _ s
  refine wpAny_bind (wpAny_mono (wpAny_comprehension_free (use := some (assign (.Name y py) env)) (Q := fun _ s' => Q .next s') rfl hs hclos hkind hnames
    (wpAny_mono h (fun xv s₁ h₁ => wpAny_mono h₁ (fun it s₂ h₂ => ?_) fun _ _ e => e) fun _ _ e => e)) (fun _ s' hq => wpAny_pure (wpAny_pure hq)) fun _ _ e => e)
  obtain ⟨I, fp, wr, n, P, St, W, lv, J, m, rfl, Wk, hsz, hst, hfp, hWf, hLf, hLW, hn, stL, hlv, hq, hQ⟩ := h₂
  refine comp_block_R (RR := fun acc C => compPost (model RP w) A E (some (assign (.Name y py) env)) (fun _ s' => Q .next s') acc C) Wk hsz hcell hkind hx hst hfp hWf hlv hq ?_
  intro h' tk m' ys ep hnC hl hle hJ hk
  have hLlt : @LT.lt Nat _ env.locals s₂.heap.objs.size := by obtain ⟨o, _, _, ho, _⟩ := hn; exact nlt ho
  have hLC : @Ne Nat env.locals (s₂.heap.objs.size + 1) := neN (by omega)
  have hLD : @Ne Nat s₂.heap.objs.size env.locals := neN (by omega)
  show wpAny _ A (assign (.Name y py) env (.ref _)) _ _ _
  refine wpAny_assign_Name (wpAny_storeName_local hy (hn.at' fun o e => hk _ o hLf hLW e) (fun h₂ hn₂ hs₂ => ?_) hp)
  refine ⟨m', hnC.sameBut hs₂ (Ne.symm hLC), fun h₃ hs₃ => ?_⟩
  exact hQ h₃ _ ys ep (hs₃.extBut _ _ (neN (by omega)) (hs₂.extBut _ _ hLD hl)) hle (hq.stay _ _ _ _ (stL _ _ _ _ hJ fun b o hb e => hs₂.extBut b o hb e) fun b o _ hlo e => hs₃.extBut b o (neN (by omega)) e) (hn₂.sameBut hs₃ hLC)
    fun b o hbL hb hW e => hs₃.extBut b o (by have := nlt e; exact neN (by omega)) (hs₂.extBut b o hbL (hk b o hb hW e))


/-- the same over range(n), 0 to n: what a turn changes is W -/
theorem BlkR.range {w : World} {A : Around} {E : Value → Shared → Prop} {env : Env} {elt : Expr} {x y : Str} {ifs : List Expr} {scope : Scope} {cl : List (Str × Addr)} {s : Shared} {Q : Flow → Shared → Prop} {r : Addr} {n : Nat} {a₀ b₀ c₀ : Int} {t₀ u₀ v₀ : Tok} {g : Heap} {m : Str → Option Value}
    (hh : A.handled = none) (F : Fr g env.locals s.heap m) (W : List Addr) (J : Nat → List Value → Heap → Prop) (hr : IsRange s.heap r a₀ b₀ c₀ t₀ u₀ v₀) (hsmall : Builtin.Range.small a₀ b₀ c₀ = true) (hn : Builtin.Range.rangeSize a₀ b₀ c₀ = (n : Int)) (hsz : n ≤ sizeLine)
    (hW : ∀ b ∈ W, b < s.heap.objs.size) (hLW : env.locals ∉ W)
    (stay : ∀ i ys h h', J i ys h → (∀ (b : Nat) o, b ≠ s.heap.objs.size → b ≠ s.heap.objs.size + 1 → b ≠ s.heap.objs.size + 2 → b ≠ env.locals → h.get? b = some o → h'.get? b = some o) → J i ys h') (start : J 0 [] s.heap)
    (turn : ∀ i ys h tk m₃ E', i < n → J i ys h → h.Ns (s.heap.objs.size + 2) m₃ → (∃ o, h.get? s.heap.objs.size = some o) → (∃ o, h.get? (s.heap.objs.size + 1) = some o) → Keep W s.heap h →
      wpAny (model RP w) A (forIn ifs true fun c r => if r = true then do let ok ← isTrue c (compEnvC scope cl (s.heap.objs.size + 2) env) (eval c (compEnvC scope cl (s.heap.objs.size + 2) env)); pure (ForInStep.yield ok) else pure (ForInStep.yield r))
        (fun ok s₄ => if ok = true then
            wpAny (model RP w) A (eval elt (compEnvC scope cl (s.heap.objs.size + 2) env)) (fun y s₅ => TEnd s W h (J (i + 1) (ys ++ [y])) s₅) E' s₄
          else TEnd s W h (J (i + 1) ys) s₄) E' { s with heap := h, toks := tk })
    (done : ∀ D h' tk (ys : List Value) ep', D = s.heap.objs.size + 1 → h'.get? D = some (PySem.W.listOf ys.toArray ep') → ys.length ≤ n → J n ys h' → h'.Ns env.locals (fun z => if z = y then some (.ref D) else m z) → Keep (env.locals :: W) s.heap h' → Q .next { s with heap := h', toks := tk }) :
    wpAny (model RP w) A (pyIter (.ref r)) (BlkR w A env scope cl x ifs elt y Q) E s := by
  have hL : @LT.lt Nat _ env.locals s.heap.objs.size := F.ns.lt
  refine wpAny_pyIter_range hr hsmall ?_
  have up : ∀ (o : Obj) b x, s.heap.get? b = some x → (s.heap.push o).get? b = some x := fun o b x e => Heap.get?_push_of_some o e
  have offI : ∀ b o, s.heap.get? b = some o → b ∉ [s.heap.objs.size] := fun b o e q => absurd (nlt e) (by rw [List.mem_singleton.mp q]; exact Nat.lt_irrefl _)
  refine ⟨_, _, _, n, _, _, W, [s.heap.objs.size], J, m, rfl, Walks.range (prog := RP) (w := w) hh s.heap.objs.size a₀ c₀ n, hsz, (by show IsRangeIter _ _ _ _ _; rw [hn]; simpa using Heap.get?_push_size _ rfl), ?_, ?_, ?_, hLW, (F.push _).ns, ?_, ?_, ?_, ?_⟩
  · intro b hb
    show @LT.lt Nat _ b _
    rw [Heap.size_push]
    rw [List.mem_singleton.mp hb]
    exact Nat.lt_succ_self _
  · intro b hb hm
    have h1 := hW b hb
    rw [List.mem_singleton.mp hm] at h1
    exact Nat.lt_irrefl _ h1
  · intro hm
    exact Nat.ne_of_lt hL (List.mem_singleton.mp hm)
  · exact fun i ys h h' hj hk => stay i ys h h' hj fun b o _ _ _ hb e => hk b o hb e
  · intro i h hst b hb
    rw [List.mem_singleton.mp hb]
    exact ⟨_, hst⟩
  · refine ⟨?_, ?_, ?_, ?_⟩
    · intro b hb
      show @LT.lt Nat _ b _
      rw [Heap.size_push]
      exact Nat.lt_succ_of_lt (hW b hb)
    · intro i ys h h' hj hk
      refine stay i ys h h' hj fun b o h1 h2 h3 _ e => hk b o (fun q => h1 (List.mem_singleton.mp q)) ?_ e
      show @LT.lt Nat _ b _ ∨ _
      rw [Heap.size_push]; omega
    · exact stay _ _ _ _ start fun b o _ _ _ _ e => up _ _ _ e
    · intro i v ys s₃ m₃ E' hs₃ hi hP hj hn' hm hacc hlv hk
      obtain ⟨h, tk, rfl⟩ := hs₃
      rw [Heap.size_push] at hn' hacc ⊢
      exact turn i ys h tk m₃ E' hi hj hn' (hlv _ (.head _)) hacc fun b o hb e => hk b o (offI b o e) hb (up _ _ _ e)
  · intro h' tk ys ep' hl' hle hj hns hk
    rw [Heap.size_push] at hl' hns
    exact done _ h' tk ys ep' rfl hl' hle hj hns fun b o hb e => hk b o (fun q => hb (by rw [q]; exact .head _)) (offI b o e) (fun q => hb (.tail _ q)) (up _ _ _ e)
/-- a made map, its parts -/
structure Rc where
  (t nt k dx r o q : Nat) (oo : Obj) (rest : List (Addr × Obj)) (l : Lv (Ch Empty)) (dv : Value) (h1 h2 h3 h4 h5 : Int) (t1 t2 t3 t4 t5 tq : Tok)
noncomputable def Rc.kd (c : Rc) (pv : Value) : Obj := kmDict c.h1 c.h2 c.h3 c.h4 c.h5 c.t1 c.t2 c.t3 c.t4 c.t5 c.tq c.r c.l.dflt.isSome c.dv pv
noncomputable def Rc.tup (c : Rc) : Obj := tupOf #[.ref c.k, .ref c.o] c.nt
noncomputable def Rc.objs (c : Rc) : List (Addr × Obj) := (c.t, c.tup) :: (c.dx, c.kd .none) :: (c.o, c.oo) :: c.rest
structure Rc.Good (w : World) (c : Rc) : Prop where
  off : OwnOff c.rest [c.dx, c.o]
  ne : @Ne Nat c.dx c.o
  ink : (c.k, instObj 122 c.dx) ∈ c.rest
  hoo : c.oo.IsDictOf (strKind RP w) (ownRows c.q c.dv .none)
  lo : (c.o == sysModules) = false
  T1 : Told c.rest fun h => ∀ pv, h.get? c.dx = some (c.kd pv) → K1 w (KC w RE) h c.k pv c.l
  T2 : Told c.rest fun h => ∀ pv oo', oo'.IsDictOf (strKind RP w) (ownRows c.q c.dv pv) → h.get? c.o = some oo' → O1 w (OC w RE) h c.o pv c.l
noncomputable def Apart (a b : Rc) : Prop := ∀ p ∈ a.objs, ∀ q ∈ b.objs, p.1 ≠ q.1

inductive PairsJ (w : World) (deck l0 : Addr) (bad : Addr → Prop) (i : Nat) (ys : List Value) (h : Heap) : Prop
  | mk (cs : List Rc) (n : Int) (t : Tok) (e : Nat) (a1 : cs.length = i) (a2 : ys = cs.map fun c => .ref c.t) (a3 : ∀ c ∈ cs, c.Good w) (a4 : ∀ c ∈ cs, ∀ p ∈ c.objs, h.get? p.1 = some p.2) (a5 : ∀ c ∈ cs, ∀ p ∈ c.objs, ∀ b, bad b → p.1 ≠ b)
      (a6 : cs.Pairwise Apart) (a7 : h.get? deck = some (PySem.W.listOf #[.ref l0, .int n t] e)) (a8 : 0 ≤ n) (a9 : n ≤ 50 * i)

theorem PairsJ.snoc {w : World} {deck l0 : Addr} {bad : Addr → Prop} {i : Nat} {h h' : Heap} {cs : List Rc} {c : Rc} {n n' : Int} {t' : Tok} {e' : Nat} (a1 : cs.length = i) (a3 : ∀ c ∈ cs, c.Good w) (a4 : ∀ c ∈ cs, ∀ p ∈ c.objs, h.get? p.1 = some p.2) (a5 : ∀ c ∈ cs, ∀ p ∈ c.objs, ∀ b, bad b → p.1 ≠ b)
    (a6 : cs.Pairwise Apart) (a8 : 0 ≤ n) (a9 : n ≤ 50 * i) (kp : Keep [deck] h h') (hd : h'.get? deck = some (PySem.W.listOf #[.ref l0, .int n' t'] e')) (l1 : n ≤ n') (l2 : n' ≤ n + 50) (hdb : bad deck)
    (hn : ∀ p ∈ c.objs, h'.get? p.1 = some p.2 ∧ h.get? p.1 = none) (hb : ∀ b, bad b → ∃ o, h.get? b = some o) (G : c.Good w) : PairsJ w deck l0 bad (i + 1) ((cs.map fun c => Value.ref c.t) ++ [.ref c.t]) h' := by
  have live : ∀ b, (∃ o, h.get? b = some o) → ∀ p ∈ c.objs, p.1 ≠ b := fun b ⟨o, e⟩ p hp q => by
    have := (hn p hp).2
    rw [q, e] at this; cases this
  refine .mk (cs ++ [c]) n' t' e' (by simp [a1]) (by simp) ?_ ?_ ?_ ?_ hd (by omega) (by push_cast; omega)
  · intro d hd'
    rcases List.mem_append.mp hd' with h1 | h1
    · exact a3 d h1
    · rw [List.mem_singleton.mp h1]; exact G
  · intro d hd' p hp
    rcases List.mem_append.mp hd' with h1 | h1
    · exact kp _ _ (fun q => a5 d h1 p hp deck hdb (List.mem_singleton.mp q)) (a4 d h1 p hp)
    · rw [List.mem_singleton.mp h1] at hp; exact (hn p hp).1
  · intro d hd' p hp b hb'
    rcases List.mem_append.mp hd' with h1 | h1
    · exact a5 d h1 p hp b hb'
    · rw [List.mem_singleton.mp h1] at hp; exact live b (hb b hb') p hp
  · rw [List.pairwise_append]
    refine ⟨a6, List.pairwise_singleton _ _, fun a ha b hb' p hp q hq => ?_⟩
    rw [List.mem_singleton.mp hb'] at hq
    exact Ne.symm (live p.1 ⟨_, a4 a ha p hp⟩ q hq)
theorem PairsJ.stay {w : World} {deck l0 : Addr} {bad : Addr → Prop} {i : Nat} {ys : List Value} {h h' : Heap} {ok : Addr → Prop} (j : PairsJ w deck l0 bad i ys h) (hk : ∀ b o, ok b → h.get? b = some o → h'.get? b = some o) (hd : ok deck) (hb : ∀ b, (∀ x, bad x → b ≠ x) → ok b) : PairsJ w deck l0 bad i ys h' := by
  obtain ⟨cs, n, t, e, a1, a2, a3, a4, a5, a6, a7, a8, a9⟩ := j
  exact .mk cs n t e a1 a2 a3 (fun c hc p hp => hk _ _ (hb _ (a5 c hc p hp)) (a4 c hc p hp)) a5 a6 (hk _ _ hd a7) a8 a9

/-- the objects of some maps -/
noncomputable def objsOf (cs : List Rc) : List (Addr × Obj) := cs.flatMap Rc.objs
/-- the statements behind the k-th of the i-th def -/
noncomputable def restAt (p : Program) (i k : Nat) : Option (List Stmt × Scope) := (defAt p i).map fun d => (d.2.2.1.drop k, d.2.2.2)
theorem open_rest {g : Program → Option (List Stmt × Scope)} {rest rest' : List Stmt} {scope scope' : Scope} (h1 : g PW = some (rest, scope)) (h2 : g PySem.Challenge.pw_ok0053_01 = some (rest', scope'))
    {w : World} {A : Around} {L fa : Addr} {cdv : Value} {nm : Str} {Q : Flow → Shared → Prop} {E : Value → Shared → Prop} {s : Shared} (h : wpAny (model RP w) A (execs rest' (envOfC nm scope' L fa cdv)) Q E s) : wpAny (model RP w) A (execs rest (envOfC nm scope L fa cdv)) Q E s := by
  have e := h1.symm.trans h2
  cases e
  exact h

theorem IntsAre.snoc {k : Int} {u : Tok} : ∀ {vs : List Value} {ns : List Int}, IntsAre vs ns → IntsAre (vs ++ [.int k u]) (ns ++ [k])
  | _, _, .nil => .cons k u .nil
  | _, _, .cons n t r => .cons n t (IntsAre.snoc r)
theorem IntsAre.len {vs : List Value} {ns : List Int} (h : IntsAre vs ns) : vs.length = ns.length := by
  induction h with
  | nil => rfl
  | cons _ _ _ ih => simp [ih]
theorem IntsAre.nth {vs : List Value} {ns : List Int} (h : IntsAre vs ns) : ∀ {i : Nat} {v : Value}, vs[i]? = some v → ∃ k t, v = .int k t := by
  induction h with
  | nil => intro i v e; simp at e
  | cons n t _ ih =>
    intro i v e
    cases i with
    | zero => simp at e; exact ⟨n, t, e.symm⟩
    | succ i => exact ih (by simpa using e)
theorem pick_to (vs : List Value) (k : Nat) (hk : vs.length ≤ k) : (slicePick vs.toArray none (some (k : Int)) none).toList = vs := by
  rw [kms_pick_eq]
  unfold kms_pick kms_lo kms_hi
  simp
  rw [if_neg (by omega), Nat.min_eq_right hk, List.take_length]

theorem law_a {w : World} {A : Around} {E : Value → Shared → Prop} {s : Shared} {Q : Flow → Shared → Prop} {g : Heap} {L fa sc : Addr} {cdv : Value} {mean : ExcName → Option Value} {mg mb : Str → Option Value} {rest : List Stmt} {scope : Scope} {vs : List Value} {ns : List Int} {oc : Obj} {m : Str → Option Value}
    (h1 : restAt PW 39 0 = some (rest, scope)) (hh : A.handled = none) (Rd : ∀ (h' : Heap) (m' : Str → Option Value) (nw : List (Addr × Obj)), Fr g L h' m' → News g L h' nw → Rdy w A 100 h' nw)
    (F : Fr g L s.heap m) (N : News g L s.heap [(L + 1, oc)]) (hc : oc.data = .cell none) (hm : m (PySem.Str.ofString "script") = some (.ref sc)) (hsc : g.IsList sc vs.toArray) (hi : IntsAre vs ns) (hlen : ns.length ≤ 63) (X : (KK w.params).In g) (T : Top VW LS mean mg mb g)
    (next : ∀ {rest : List Stmt} {scope : Scope} {deck l0 pl e e0 ep : Nat} {n : Int} {t : Tok} {vs0 : List Value} {ns0 : List Int} {cs : List Rc} {oc2 : Obj} (h' : Heap) (tk' : Nat) (m' : Str → Option Value), restAt PW 39 2 = some (rest, scope) →
      Fr g L h' m' → m' (PySem.Str.ofString "pairs") = some (.ref pl) →
      News g L h' ((deck, PySem.W.listOf #[.ref l0, .int n t] e) :: (L + 1, oc2) :: (l0, PySem.W.listOf vs0.toArray e0) :: (pl, PySem.W.listOf (cs.map fun c => Value.ref c.t).toArray ep) :: objsOf cs) →
      (∀ p ∈ (L + 1, oc2) :: (l0, PySem.W.listOf vs0.toArray e0) :: (pl, PySem.W.listOf (cs.map fun c => Value.ref c.t).toArray ep) :: objsOf cs, p.1 ≠ deck) → oc2.data = .cell (some (.ref deck)) → IntsAre vs0 ns0 → ns0.length ≤ 63 → l0 ≠ deck →
      cs.length = 5 → (∀ c ∈ cs, c.Good w) → cs.Pairwise Apart → 0 ≤ n → n ≤ 250 → wpAny (model RP w) A (execs rest (envOfC (PySem.Str.ofString "law") scope L fa cdv)) Q E { s with heap := h', toks := tk' }) :
    wpAny (model RP w) A (execs rest (envOfC (PySem.Str.ofString "law") scope L fa cdv)) Q E s := by
  refine' open_rest (g := fun p => restAt p 39 0) h1 ?h2 ?_
  case h2 => exact rfl
  rw [m_at hm] at F
  obtain ⟨ah, dp, ev, gd, un⟩ := A
  obtain rfl : ah = none := hh
  k_steps
  refine Stop.go ?_
  k_unmd
  refine comp_J (cl := []) ?hclos ?hcell ?hkind ?hnames ?hx ?hs ?_
  case hclos => with_unfolding_all rfl
  case hcell => decide
  case hkind => exact rfl
  case hnames => decide
  case hx => exact rfl
  case hs => intro _; with_unfolding_all rfl
  k_steps
  have he : (slicePick vs.toArray none (some 63) none).toList = vs := pick_to vs 63 (by rw [IntsAre.len hi]; exact hlen)
  have hsz : (slicePick vs.toArray none (some 63) none).size ≤ 63 := by
    have e := pick_to vs 63 (by rw [IntsAre.len hi]; exact hlen)
    have e2 : (slicePick vs.toArray none (some 63) none).toList = vs := e
    rw [← Array.length_toList, e2, IntsAre.len hi]; exact hlen
  refine Stop.go ?_
  refine Blk.list rfl [] (fun _ ys _ => ∃ as, IntsAre ys as) (N7 _ (.head _)).1 (by rw [sizeLine_eq]; omega) (fun _ h => nomatch h) (fun h => nomatch h) (fun _ _ _ _ j _ => j) ⟨[], .nil⟩ ?turn ?done
  case turn =>
    intro i vx ys h6 tk6 m6 E6 hv6 hj6 hn6 hm6 kp6
    obtain ⟨k, u, rfl⟩ := IntsAre.nth hi (i := i) (v := vx) (by rw [← he]; simpa using hv6)
    obtain ⟨as, hj6⟩ := hj6
    have F6 := Keep.fr kp6 F7
    have kt : Keep [] h6 h6 := Keep.refl _ _
    k_unmd; try k_fold
    refine tests_none ?_
    k_steps
    exact TEnd.mk kt ⟨_, IntsAre.snoc hj6⟩
  case done =>
    intro h6 tk6 ys ep6 hl6 hle6 hj6 kp6
    obtain ⟨as, hj6⟩ := hj6
    have hD : h7.get? (h7.objs.size + 1) = none := by
      cases q : h7.get? (h7.objs.size + 1) with
      | none => rfl
      | some o => exact absurd (nlt q) (by omega)
    have F6 := Keep.fr kp6 F7
    have N6 := Keep.add kp6 F7 N7 hl6 hD
    have u1 : @LT.lt Nat _ l7 h7.objs.size := nlt (N7 _ (.head _)).1
    k_steps
    rename_i dk hA FA NA l9 hB oc2 F8 N8 hc8
    have N9 : News g L hB [(dk, PySem.W.listOf #[.ref (h7.objs.size + 1), .int 0 tk6] 0), (h7.objs.size + 1, PySem.W.listOf ys.toArray ep6), (l7, PySem.W.listOf (slicePick vs.toArray none (some 63) none) 0), (L + 1, oc2)] := N8
    clear FA NA N8
    refine Stop.go ?_
    refine assign_R (cl := [(PySem.Str.ofString "deck", L + 1)]) ?hsw ?hclos ?hcell ?hkind ?hnames ?hx ?hy ?hp ?hs ?_
    case hsw => with_unfolding_all rfl
    case hclos => with_unfolding_all rfl
    case hcell => decide
    case hkind => exact rfl
    case hnames => decide
    case hx => exact rfl
    case hy => exact rfl
    case hp => exact rfl
    case hs => intro _; with_unfolding_all rfl
    k_steps
    rename_i hR tkR ta tb tc IR F10 N10 kR
    have as63 : as.length ≤ 63 := by rw [← IntsAre.len hj6]; omega
    have nL : dk ≠ L := (N10 _ (.head _)).2.1
    have eD : hR.get? dk = some (PySem.W.listOf #[.ref (h7.objs.size + 1), .int 0 tk6] 0) := (N10 _ (.head _)).1
    have e0 : hR.get? (h7.objs.size + 1) = some (PySem.W.listOf ys.toArray ep6) := (N10 _ (.tail _ (.head _))).1
    have eC : hR.get? (L + 1) = some oc2 := (N10 _ (.tail _ (.tail _ (.tail _ (.head _))))).1
    have l0ne : h7.objs.size + 1 ≠ dk := Nat.ne_of_lt l9.1
    have cne : L + 1 ≠ dk := Nat.ne_of_lt l9.2.2
    have gD : g.get? dk = none := (N10 _ (.head _)).2.2
    have ltD : @LT.lt Nat _ dk hR.objs.size := nlt eD
    have ltL : @LT.lt Nat _ L hR.objs.size := F10.ns.lt
    have aL : ∃ o, hR.get? L = some o := by obtain ⟨o, _, _, e, _⟩ := F10.ns; exact ⟨o, e⟩
    refine Stop.go ?_
    refine BlkR.range (n := 5) rfl F10 [dk] (PairsJ w dk (h7.objs.size + 1) (fun b => (∃ o, hR.get? b = some o) ∨ b = hR.objs.size ∨ b = hR.objs.size + 1 ∨ b = hR.objs.size + 2)) IR rfl rfl (by rw [sizeLine_eq]; exact Nat.le_of_ble_eq_true rfl) (fun b hb => by rw [List.mem_singleton.mp hb]; exact ltD) (fun h => nL (List.mem_singleton.mp h).symm) ?stay ?start ?turn2 ?done2
    case stay =>
      intro i ys h h' j hk
      refine PairsJ.stay (ok := fun b => @Ne Nat b hR.objs.size ∧ @Ne Nat b (hR.objs.size + 1) ∧ @Ne Nat b (hR.objs.size + 2) ∧ b ≠ L) j (fun b o ok e => hk b o ok.1 ok.2.1 ok.2.2.1 ok.2.2.2 e) ⟨(by k_ne), (by k_ne), (by k_ne), nL⟩ (fun b hb => ⟨hb _ (.inr (.inl rfl)), hb _ (.inr (.inr (.inl rfl))), hb _ (.inr (.inr (.inr rfl))), hb _ (.inl aL)⟩)
    case start => exact .mk [] 0 tk6 0 rfl rfl (fun _ h => nomatch h) (fun _ h => nomatch h) (fun _ h => nomatch h) .nil eD (by omega) (by omega)
    case turn2 =>
      intro i ys' h6' tk6' m6 E6 hi5 hj hn6 hI hacc kp6'
      obtain ⟨cs, n, t, e, rfl, rfl, a3, a4, a5, a6, a7, a8, a9⟩ := hj
      have F6' : Fr g L h6' _ := fr_but F10 (wr := [dk]) kp6' (fun b hb => by rw [List.mem_singleton.mp hb]; exact gD) (fun h => nL (List.mem_singleton.mp h).symm)
      have Nd : News g L h6' [(dk, PySem.W.listOf #[.ref (h7.objs.size + 1), .int n t] e)] := fun p hp => by rw [List.mem_singleton.mp hp]; exact ⟨a7, nL, gD⟩
      have hl6' : h6'.IsList (h7.objs.size + 1) ys.toArray := ⟨_, kp6' _ _ (fun q => l0ne (List.mem_singleton.mp q)) e0, rfl, _, rfl⟩
      have hc6 : h6'.IsCell (L + 1) (some (.ref dk)) := ⟨oc2, kp6' _ _ (fun q => cne (List.mem_singleton.mp q)) eC, hc8⟩
      clear N10 F10
      k_unmd; try k_fold
      refine tests_none ?_
      k_steps
      refine Stop.go (wpAny_call (map1_code (Rdy.le (Rd _ _ _ F6' Nd) (by decide)) hl6' hj6 as63 l0ne a8 (by omega) ?_))
      intro h' tk' tp nt k dx r o q oo rest l dv h1 h2 h3 h4 h5 t1 t2 t3 t4 t5 tq n' t' e' kp hd l1 l2 hn O hne2 hk hoo lo T1 T2
      refine TEnd.mk kp (PairsJ.snoc (c := ⟨tp, nt, k, dx, r, o, q, oo, rest, l, dv, h1, h2, h3, h4, h5, t1, t2, t3, t4, t5, tq⟩) rfl a3 a4 a5 a6 a8 a9 kp hd l1 l2 (.inl ⟨_, eD⟩) hn ?_ ⟨O, hne2, hk, hoo, lo, T1, T2⟩)
      rintro b (⟨o', ho'⟩ | rfl | rfl | rfl)
      · by_cases qb : b = dk
        · rw [qb]; exact ⟨_, a7⟩
        · exact ⟨o', kp6' _ _ (fun q => qb (List.mem_singleton.mp q)) ho'⟩
      · exact hI
      · exact hacc
      · obtain ⟨o', _, _, e', _⟩ := hn6; exact ⟨o', e'⟩
    case done2 =>
      intro D h8' tk8 ys8 ep8 hD8 hl8 hle8 hj8 hns8 kp8
      replace hD8 : D = hR.objs.size + 1 := hD8
      obtain ⟨cs, n, t, e, a1, rfl, a3, a4, a5, a6, a7, a8, a9⟩ := hj8
      have F11 : Fr g L h8' (fun z => if z = PySem.Str.ofString "pairs" then some (.ref D) else (fun y => if y = PySem.Str.ofString "script" then some (Value.ref sc) else m y) z) := ⟨hns8, fun b o' e' => kp8 b o' (fun q => by
          rcases List.mem_cons.mp q with q | q
          · exact absurd (nlt e') (by have := F10.above; rw [q]; exact Nat.not_lt.mpr this)
          · rw [List.mem_singleton.mp q, gD] at e'; cases e') (F10.keep _ _ e'), F10.above⟩
      have DL : D ≠ L := by rw [hD8]; exact (by k_ne)
      have freshH : ∀ b, hR.get? b = none → g.get? b = none := fun b hb => by
        cases q : g.get? b with
        | none => rfl
        | some o' => have := F10.keep _ _ q; rw [hb] at this; cases this
      have old : ∀ b o', b ≠ L → b ≠ dk → hR.get? b = some o' → h8'.get? b = some o' := fun b o' h1 h2 e' => kp8 b o' (fun q => by
          rcases List.mem_cons.mp q with q | q
          · exact h1 q
          · exact h2 (List.mem_singleton.mp q)) e'
      have DD : D ≠ dk := by rw [hD8]; exact (by k_ne)
      refine next (deck := dk) (l0 := h7.objs.size + 1) (n := n) (t := t) (e := e) (e0 := ep6) (pl := D) (ep := ep8) (vs0 := ys) (ns0 := as) (cs := cs) (oc2 := oc2) _ _ _ (by exact rfl) F11 (by rfl) ?_ ?_ hc8 hj6 as63 l0ne a1 a3 a6 a8 (by omega)
      · intro p hp
        rcases List.mem_cons.mp hp with rfl | hp
        · exact ⟨a7, nL, gD⟩
        · rcases List.mem_cons.mp hp with rfl | hp
          · exact ⟨old _ _ (Nat.succ_ne_self L) cne eC, (N10 _ (.tail _ (.tail _ (.tail _ (.head _))))).2⟩
          · rcases List.mem_cons.mp hp with rfl | hp
            · exact ⟨old _ _ (N10 _ (.tail _ (.head _))).2.1 l0ne e0, (N10 _ (.tail _ (.head _))).2⟩
            · rcases List.mem_cons.mp hp with rfl | hp
              · refine ⟨hl8, DL, freshH _ ?_⟩
                cases q : hR.get? D with
                | none => rfl
                | some o' => exact absurd (nlt q) (by rw [hD8]; exact Nat.not_lt.mpr (Nat.le_succ _))
              · obtain ⟨c, hc, hp⟩ := List.mem_flatMap.mp hp
                have live : ∀ b, (∃ o', hR.get? b = some o') → p.1 ≠ b := fun b hb => a5 c hc p hp b (.inl hb)
                refine ⟨a4 c hc p hp, live L aL, ?_⟩
                cases q : g.get? p.1 with
                | none => rfl
                | some o' => exact absurd rfl (live p.1 ⟨_, F10.keep _ _ q⟩)
      · intro p hp
        rcases List.mem_cons.mp hp with rfl | hp
        · exact cne
        · rcases List.mem_cons.mp hp with rfl | hp
          · exact l0ne
          · rcases List.mem_cons.mp hp with rfl | hp
            · exact DD
            · obtain ⟨c, hc, hp⟩ := List.mem_flatMap.mp hp
              exact a5 c hc p hp dk (.inl ⟨_, eD⟩)
/-- what stands fixed behind the building -/
structure Fx where
  (deck l0 pl ep e0 : Nat) (vs0 : List Value) (oc2 : Obj) (k o t nt : Nat → Nat) (ch : Nat → Ch (Ch Empty)) (own : List (Addr × Obj))
noncomputable def Fx.base (x : Fx) (L : Addr) : List (Addr × Obj) := (L + 1, x.oc2) :: (x.l0, PySem.W.listOf x.vs0.toArray x.e0) :: (x.pl, PySem.W.listOf #[.ref (x.t 0), .ref (x.t 1), .ref (x.t 2), .ref (x.t 3), .ref (x.t 4)] x.ep) ::
  (x.t 0, tupOf #[.ref (x.k 0), .ref (x.o 0)] (x.nt 0)) :: (x.t 1, tupOf #[.ref (x.k 1), .ref (x.o 1)] (x.nt 1)) :: (x.t 2, tupOf #[.ref (x.k 2), .ref (x.o 2)] (x.nt 2)) :: (x.t 3, tupOf #[.ref (x.k 3), .ref (x.o 3)] (x.nt 3)) :: (x.t 4, tupOf #[.ref (x.k 4), .ref (x.o 4)] (x.nt 4)) :: x.own
structure Fx.Ok (w : World) (L : Addr) (x : Fx) : Prop where
  told : ∀ i, i < 5 → Told x.own fun h => KC w (KC w RE) h (x.k i) (x.ch i) ∧ OC w (OC w RE) h (x.o i) (x.ch i)
  ne : x.l0 ≠ x.deck
  isInts : ∃ ns, IntsAre x.vs0 ns ∧ ns.length ≤ 63
  hc : x.oc2.data = .cell (some (.ref x.deck))
  off : ∀ p ∈ x.base L, p.1 ≠ x.deck

theorem News.obj_ne {h₀ h : Heap} {L : Addr} {news : List (Addr × Obj)} (N : News h₀ L h news) {a b : Addr} {o1 o2 : Obj} (h1 : (a, o1) ∈ news) (h2 : (b, o2) ∈ news) (hc : o1 ≠ o2) : @Ne Nat a b := fun q => by
  have e1 : h.get? a = some o1 := (N _ h1).1
  have e2 : h.get? b = some o2 := (N _ h2).1
  have q : a = b := q
  rw [q, e2] at e1
  exact hc (Option.some.inj e1).symm
/-- a heap of just these objects -/
theorem ghost {own : List (Addr × Obj)} {h : Heap} (hs : ∀ p ∈ own, h.get? p.1 = some p.2) : ∃ g₀ : Heap, (∀ p ∈ own, g₀.get? p.1 = some p.2) ∧ ∀ b o, g₀.get? b = some o → (b, o) ∈ own := by
  refine ⟨hideAll h ((List.range h.objs.size).filter fun a => !(own.map (·.1)).contains a), fun p hp => hideAll_get _ (hs p hp) (fun q => ?_), fun b o e => ?_⟩
  · have := (List.mem_filter.mp q).2
    rw [List.contains_iff_mem.mpr (List.mem_map_of_mem hp)] at this
    cases this
  · have e' := of_hideAll _ e
    have hm : b ∈ own.map (·.1) := by
      by_cases q : b ∈ own.map (·.1)
      · exact q
      · rw [hideAll_none _ (List.mem_filter.mpr ⟨List.mem_range.mpr (nlt e'), by simpa using q⟩)] at e
        cases e
    obtain ⟨p, hp, rfl⟩ := List.mem_map.mp hm
    have := hs p hp
    rw [e'] at this
    have : p.2 = o := (Option.some.inj this).symm
    rw [← this]
    exact hp
theorem ghost_keep {own : List (Addr × Obj)} {g₀ h : Heap} (hg : ∀ b o, g₀.get? b = some o → (b, o) ∈ own) (hs : ∀ p ∈ own, h.get? p.1 = some p.2) : Keep [] g₀ h := Keep.of_all fun b o e => hs _ (hg b o e)
theorem ghost_none {own : List (Addr × Obj)} {g₀ : Heap} {a : Addr} (hg : ∀ b o, g₀.get? b = some o → (b, o) ∈ own) (ha : ∀ p ∈ own, p.1 ≠ a) : g₀.get? a = none := by
  cases q : g₀.get? a with
  | none => rfl
  | some o => exact absurd rfl (ha _ (hg a o q))
noncomputable def AllNe (d : Nat) : List Nat → Prop
  | [] => True
  | a :: r => @Ne Nat a d ∧ AllNe d r
theorem allNe_map {d : Addr} : ∀ {l : List (Addr × Obj)}, (∀ p ∈ l, p.1 ≠ d) → AllNe d (l.map (·.1))
  | [], _ => trivial
  | p :: _, h => ⟨h p (.head _), allNe_map fun q hq => h q (.tail _ hq)⟩
theorem News.ne_dict {h₀ h : Heap} {L : Addr} {news : List (Addr × Obj)} (N : News h₀ L h news) {b : Addr} {o2 : Obj} {es : Array DictEntry} {n : Nat} (h2 : (b, o2) ∈ news) (hd : o2.data = .dict es n) {l : List (Addr × Obj)} (hs : ∀ p ∈ l, p ∈ news) (hnd : ∀ p ∈ l, ∀ es n, p.2.data ≠ .dict es n) : ∀ p ∈ l, p.1 ≠ b := fun p hp q => by
  have e1 := (N p (hs p hp)).1
  have e2 : h.get? b = some o2 := (N _ h2).1
  rw [q, e2] at e1
  exact hnd p hp es n (by rw [← Option.some.inj e1]; exact hd)

noncomputable def Nm : List (Str × Value) → (Str → Option Value) → Prop
  | [], _ => True
  | p :: r, m => m p.1 = some p.2 ∧ Nm r m
/-- between two statements of law -/
noncomputable def Sx (g : Heap) (L : Addr) (s₀ : Shared) (x : Fx) (bd : Int) (nms : List (Str × Value)) (objs : List (Addr × Obj)) (s : Shared) : Prop :=
  ∃ (n : Int) (t : Tok) (e : Nat) (h' : Heap) (tk' : Nat) (m' : Str → Option Value) (R : List (Addr × Obj)), s = { s₀ with heap := h', toks := tk' } ∧ Fr g L h' m' ∧ Nm nms m' ∧ News g L h' ((x.deck, PySem.W.listOf #[.ref x.l0, .int n t] e) :: R) ∧
    (∀ p ∈ R, p.1 ≠ x.deck) ∧ (∀ p ∈ objs, p ∈ R) ∧ (∀ p ∈ x.base L, p ∈ R) ∧ 0 ≤ n ∧ n ≤ bd
/-- the needed ones go ahead -/
theorem News.ahead {h₀ h : Heap} {L : Addr} {d : Addr × Obj} {R needed : List (Addr × Obj)} (N : News h₀ L h (d :: R)) (hs : ∀ p ∈ needed, p ∈ R) : News h₀ L h (d :: (needed ++ R)) := News.sub N fun p hp => by
  rcases List.mem_cons.mp hp with rfl | hp
  · exact .head _
  · rcases List.mem_append.mp hp with hp | hp
    · exact .tail _ (hs p hp)
    · exact .tail _ hp
theorem off_ahead {d : Addr} {R needed : List (Addr × Obj)} (ho : ∀ p ∈ R, p.1 ≠ d) (hs : ∀ p ∈ needed, p ∈ R) : ∀ p ∈ needed ++ R, p.1 ≠ d := fun p hp => (List.mem_append.mp hp).elim (fun h => ho p (hs p h)) (ho p)
noncomputable def tl (x : Fx) (is : List Nat) : List Value := is.map fun i => .ref (x.t i)
noncomputable def kl (x : Fx) (is : List Nat) : List Value := is.map fun i => .ref (x.k i)
noncomputable def ol (x : Fx) (is : List Nat) : List Value := is.map fun i => .ref (x.o i)
theorem mem_split {P : Addr × Obj → Prop} {a b : List (Addr × Obj)} (h1 : ∀ p ∈ a, P p) (h2 : ∀ p ∈ b, P p) : ∀ p ∈ a ++ b, P p := fun p hp => (List.mem_append.mp hp).elim (h1 p) (h2 p)

/-- the end of a phase: the new objects nw stand ahead of the deck's -/
theorem Sx.mk {g : Heap} {L : Addr} {s₀ : Shared} {x : Fx} {bd : Int} {nms : List (Str × Value)} {objs nw nd R : List (Addr × Obj)} {n : Int} {t : Tok} {e : Nat} {h' : Heap} {tk' : Nat} {m' : Str → Option Value} (F : Fr g L h' m')
    (N : News g L h' (nw ++ (x.deck, PySem.W.listOf #[.ref x.l0, .int n t] e) :: (nd ++ R))) (hm : Nm nms m') (off : ∀ p ∈ R, p.1 ≠ x.deck) (offn : ∀ p ∈ nw, p.1 ≠ x.deck) (hb : ∀ p ∈ x.base L, p ∈ R) (ho : ∀ p ∈ objs, p ∈ nw ++ R) (h1 : 0 ≤ n) (h2 : n ≤ bd) :
    Sx g L s₀ x bd nms objs { s₀ with heap := h', toks := tk' } :=
  ⟨n, t, e, h', tk', m', nw ++ R, rfl, F, hm, News.sub N (fun p hp => by
    rcases List.mem_cons.mp hp with rfl | hp
    · exact List.mem_append_right _ (.head _)
    · rcases List.mem_append.mp hp with hp | hp
      · exact List.mem_append_left _ hp
      · exact List.mem_append_right _ (.tail _ (List.mem_append_right _ hp))), mem_split offn off, ho, fun p hp => List.mem_append_right _ (hb p hp), h1, h2⟩
/-- a mark: here an if-expression is walked -/
noncomputable def IfGo : Prop := True
theorem IfGo.go : IfGo := trivial
noncomputable def full (c : Rc) : List (Addr × Obj) := (c.dx, c.kd .none) :: (c.o, c.oo) :: c.rest
noncomputable def pick5 {α : Type} (a b c d e : α) : Nat → α
  | 0 => a
  | 1 => b
  | 2 => c
  | 3 => d
  | _ => e
theorem full_told {w : World} {c : Rc} (G : c.Good w) : Told (full c) fun h => KC w (KC w RE) h c.k [c.l] ∧ OC w (OC w RE) h c.o [c.l] := fun h hh => by
  have hr : ∀ p ∈ c.rest, h.get? p.1 = some p.2 := fun p hp => hh p (.tail _ (.tail _ hp))
  exact ⟨G.T1 h hr .none (hh _ (.head _)), G.T2 h hr .none _ G.hoo (hh _ (.tail _ (.head _)))⟩
theorem len5 {α : Type} : ∀ {l : List α}, l.length = 5 → ∃ a b c d e, l = [a, b, c, d, e]
  | [a, b, c, d, e], _ => ⟨a, b, c, d, e, rfl⟩
noncomputable def S3 (w : World) (g : Heap) (L : Addr) (s s' : Shared) : Prop := ∃ (x : Fx) (n : Int) (t : Tok) (e : Nat) (h' : Heap) (tk' : Nat) (m' : Str → Option Value), s' = { s with heap := h', toks := tk' } ∧ x.Ok w L ∧ Fr g L h' m' ∧ m' (PySem.Str.ofString "pairs") = some (.ref x.pl) ∧
  News g L h' ((x.deck, PySem.W.listOf #[.ref x.l0, .int n t] e) :: x.base L) ∧ 0 ≤ n ∧ n ≤ 251

theorem off_full {a b : Rc} (h : Apart a b) : OwnOff (full b) [a.dx, a.o] := fun p hp x hx => by
  have hp' : p ∈ b.objs := List.Mem.tail _ hp
  rcases List.mem_cons.mp hx with rfl | hx
  · exact Ne.symm (h (a.dx, a.kd .none) (.tail _ (.head _)) p hp')
  · rw [List.mem_singleton.mp hx]
    exact Ne.symm (h (a.o, a.oo) (.tail _ (.tail _ (.head _))) p hp')

theorem law_b {w : World} {A : Around} {E : Value → Shared → Prop} {s : Shared} {Q : Flow → Shared → Prop} {g : Heap} {L fa : Addr} {cdv : Value} {mean : ExcName → Option Value} {mg mb : Str → Option Value} {rest : List Stmt} {scope : Scope} {m : Str → Option Value}
    {deck l0 pl e e0 ep : Nat} {n : Int} {t : Tok} {vs0 : List Value} {ns0 : List Int} {cs : List Rc} {oc2 : Obj}
    (h1 : restAt PW 39 2 = some (rest, scope)) (hh : A.handled = none) (Rd : ∀ (h' : Heap) (m' : Str → Option Value) (nw : List (Addr × Obj)), Fr g L h' m' → News g L h' nw → Rdy w A 100 h' nw)
    (F : Fr g L s.heap m) (hm : m (PySem.Str.ofString "pairs") = some (.ref pl))
    (N : News g L s.heap ((deck, PySem.W.listOf #[.ref l0, .int n t] e) :: (L + 1, oc2) :: (l0, PySem.W.listOf vs0.toArray e0) :: (pl, PySem.W.listOf (cs.map fun c => Value.ref c.t).toArray ep) :: objsOf cs))
    (hne : ∀ p ∈ (L + 1, oc2) :: (l0, PySem.W.listOf vs0.toArray e0) :: (pl, PySem.W.listOf (cs.map fun c => Value.ref c.t).toArray ep) :: objsOf cs, p.1 ≠ deck) (hc : oc2.data = .cell (some (.ref deck))) (hi0 : IntsAre vs0 ns0) (hlen0 : ns0.length ≤ 63) (l0ne : l0 ≠ deck)
    (a1 : cs.length = 5) (a3 : ∀ c ∈ cs, c.Good w) (a6 : cs.Pairwise Apart) (hn0 : 0 ≤ n) (hn1 : n ≤ 250) (X : (KK w.params).In g) (T : Top VW LS mean mg mb g)
    (next : ∀ {rest : List Stmt} {scope : Scope} (s' : Shared), restAt PW 39 3 = some (rest, scope) → S3 w g L s s' → wpAny (model RP w) A (execs rest (envOfC (PySem.Str.ofString "law") scope L fa cdv)) Q E s') :
    wpAny (model RP w) A (execs rest (envOfC (PySem.Str.ofString "law") scope L fa cdv)) Q E s := by
  refine' open_rest (g := fun p => restAt p 39 2) h1 ?h2 ?_
  case h2 => exact rfl
  rw [m_at hm] at F
  obtain ⟨ah, dp, ev, gd, un⟩ := A
  obtain rfl : ah = none := hh
  obtain ⟨c0, c1, c2, c3, c4, rfl⟩ := len5 a1
  have G0 := a3 c0 (.head _)
  have G1 := a3 c1 (.tail _ (.head _))
  have G2 := a3 c2 (.tail _ (.tail _ (.head _)))
  have G3 := a3 c3 (.tail _ (.tail _ (.tail _ (.head _))))
  have G4 := a3 c4 (.tail _ (.tail _ (.tail _ (.tail _ (.head _)))))
  have p01 : Apart c0 c1 := (List.pairwise_cons.mp a6).1 c1 (.head _)
  have p02 : Apart c0 c2 := (List.pairwise_cons.mp a6).1 c2 (.tail _ (.head _))
  have p03 : Apart c0 c3 := (List.pairwise_cons.mp a6).1 c3 (.tail _ (.tail _ (.head _)))
  have p04 : Apart c0 c4 := (List.pairwise_cons.mp a6).1 c4 (.tail _ (.tail _ (.tail _ (.head _))))
  clear a6 a1
  have m0 : ∀ p ∈ c0.objs, p ∈ objsOf [c0, c1, c2, c3, c4] := fun p hp => List.mem_flatMap.mpr ⟨c0, .head _, hp⟩
  have m1 : ∀ p ∈ c1.objs, p ∈ objsOf [c0, c1, c2, c3, c4] := fun p hp => List.mem_flatMap.mpr ⟨c1, .tail _ (.head _), hp⟩
  have m2 : ∀ p ∈ c2.objs, p ∈ objsOf [c0, c1, c2, c3, c4] := fun p hp => List.mem_flatMap.mpr ⟨c2, .tail _ (.tail _ (.head _)), hp⟩
  have m3 : ∀ p ∈ c3.objs, p ∈ objsOf [c0, c1, c2, c3, c4] := fun p hp => List.mem_flatMap.mpr ⟨c3, .tail _ (.tail _ (.tail _ (.head _))), hp⟩
  have m4 : ∀ p ∈ c4.objs, p ∈ objsOf [c0, c1, c2, c3, c4] := fun p hp => List.mem_flatMap.mpr ⟨c4, .tail _ (.tail _ (.tail _ (.tail _ (.head _)))), hp⟩
  have sub : ∀ p ∈ (c0.dx, c0.kd .none) :: (c0.o, c0.oo) :: (L + 1, oc2) :: (l0, PySem.W.listOf vs0.toArray e0) :: (pl, PySem.W.listOf #[.ref c0.t, .ref c1.t, .ref c2.t, .ref c3.t, .ref c4.t] ep) ::
      (c0.t, tupOf #[.ref c0.k, .ref c0.o] c0.nt) :: (c1.t, tupOf #[.ref c1.k, .ref c1.o] c1.nt) :: (c2.t, tupOf #[.ref c2.k, .ref c2.o] c2.nt) :: (c3.t, tupOf #[.ref c3.k, .ref c3.o] c3.nt) :: (c4.t, tupOf #[.ref c4.k, .ref c4.o] c4.nt) ::
      (c0.rest ++ (full c1 ++ (full c2 ++ (full c3 ++ full c4)))), p ∈ (L + 1, oc2) :: (l0, PySem.W.listOf vs0.toArray e0) :: (pl, PySem.W.listOf ([c0, c1, c2, c3, c4].map fun c => Value.ref c.t).toArray ep) :: objsOf [c0, c1, c2, c3, c4] :=
    subs_cons (.tail _ (.tail _ (.tail _ (m0 _ (.tail _ (.head _)))))) (subs_cons (.tail _ (.tail _ (.tail _ (m0 _ (.tail _ (.tail _ (.head _))))))) (subs_cons (.head _) (subs_cons (.tail _ (.head _)) (subs_cons (.tail _ (.tail _ (.head _))) (subs_tail (subs_tail (subs_tail
      (subs_cons (m0 _ (.head _)) (subs_cons (m1 _ (.head _)) (subs_cons (m2 _ (.head _)) (subs_cons (m3 _ (.head _)) (subs_cons (m4 _ (.head _))
        (subs_app (fun p hp => m0 p (.tail _ (.tail _ (.tail _ hp)))) (subs_app (fun p hp => m1 p (.tail _ hp)) (subs_app (fun p hp => m2 p (.tail _ hp)) (subs_app (fun p hp => m3 p (.tail _ hp)) (fun p hp => m4 p (.tail _ hp))))))))))))))))))
  have N5 := News.sub N (subs_cons (.head _) (subs_tail sub))
  have hneD := fun p hp => hne p (sub p hp)
  clear m0 m1 m2 m3 m4 sub
  have aO : OwnOff (c0.rest ++ (full c1 ++ (full c2 ++ (full c3 ++ full c4)))) [c0.dx, c0.o] := OwnOff.app G0.off (OwnOff.app (off_full p01) (OwnOff.app (off_full p02) (OwnOff.app (off_full p03) (off_full p04))))
  generalize hown : (c0.rest ++ (full c1 ++ (full c2 ++ (full c3 ++ full c4)))) = own at N5 hneD aO
  obtain ⟨esO, nO, hdO⟩ : ∃ es n, c0.oo.data = .dict es n := by obtain ⟨es, n, _, h, _⟩ := G0.hoo; exact ⟨es, n, h⟩
  have hl9 : ∀ p ∈ (L + 1, oc2) :: (l0, PySem.W.listOf vs0.toArray e0) :: (pl, PySem.W.listOf #[.ref c0.t, .ref c1.t, .ref c2.t, .ref c3.t, .ref c4.t] ep) ::
      (c0.t, tupOf #[.ref c0.k, .ref c0.o] c0.nt) :: (c1.t, tupOf #[.ref c1.k, .ref c1.o] c1.nt) :: (c2.t, tupOf #[.ref c2.k, .ref c2.o] c2.nt) :: (c3.t, tupOf #[.ref c3.k, .ref c3.o] c3.nt) :: (c4.t, tupOf #[.ref c4.k, .ref c4.o] c4.nt) ::
      [], ∀ es n, p.2.data ≠ .dict es n := by
    refine fa_cons (by intro _ _ h; rw [hc] at h; cases h) ?_
    repeat (first | exact fa_nil | refine fa_cons (by intro _ _ h; cases h) ?_)
  have hsub : ∀ p ∈ (L + 1, oc2) :: (l0, PySem.W.listOf vs0.toArray e0) :: (pl, PySem.W.listOf #[.ref c0.t, .ref c1.t, .ref c2.t, .ref c3.t, .ref c4.t] ep) ::
      (c0.t, tupOf #[.ref c0.k, .ref c0.o] c0.nt) :: (c1.t, tupOf #[.ref c1.k, .ref c1.o] c1.nt) :: (c2.t, tupOf #[.ref c2.k, .ref c2.o] c2.nt) :: (c3.t, tupOf #[.ref c3.k, .ref c3.o] c3.nt) :: (c4.t, tupOf #[.ref c4.k, .ref c4.o] c4.nt) ::
      [], p ∈ (deck, PySem.W.listOf #[.ref l0, .int n t] e) :: (c0.dx, c0.kd .none) :: (c0.o, c0.oo) :: (L + 1, oc2) :: (l0, PySem.W.listOf vs0.toArray e0) :: (pl, PySem.W.listOf #[.ref c0.t, .ref c1.t, .ref c2.t, .ref c3.t, .ref c4.t] ep) ::
      (c0.t, tupOf #[.ref c0.k, .ref c0.o] c0.nt) :: (c1.t, tupOf #[.ref c1.k, .ref c1.o] c1.nt) :: (c2.t, tupOf #[.ref c2.k, .ref c2.o] c2.nt) :: (c3.t, tupOf #[.ref c3.k, .ref c3.o] c3.nt) :: (c4.t, tupOf #[.ref c4.k, .ref c4.o] c4.nt) ::
      own := by
    repeat (first | exact subs_nil | refine subs_cons (by k_mem) ?_)
  have hneX0 := News.ne_dict N5 (b := c0.dx) (.tail _ (.head _)) rfl hsub hl9
  have hneO0 := News.ne_dict N5 (b := c0.o) (.tail _ (.tail _ (.head _))) hdO hsub hl9
  have hneX : ∀ p ∈ (c0.o, c0.oo) :: (L + 1, oc2) :: (l0, PySem.W.listOf vs0.toArray e0) :: (pl, PySem.W.listOf #[.ref c0.t, .ref c1.t, .ref c2.t, .ref c3.t, .ref c4.t] ep) ::
      (c0.t, tupOf #[.ref c0.k, .ref c0.o] c0.nt) :: (c1.t, tupOf #[.ref c1.k, .ref c1.o] c1.nt) :: (c2.t, tupOf #[.ref c2.k, .ref c2.o] c2.nt) :: (c3.t, tupOf #[.ref c3.k, .ref c3.o] c3.nt) :: (c4.t, tupOf #[.ref c4.k, .ref c4.o] c4.nt) ::
      own, p.1 ≠ c0.dx := by
    refine fa_cons (Ne.symm G0.ne) ?_
    repeat (first | exact fun p hp => aO p hp _ (.head _) | refine fa_cons (hneX0 _ (by k_mem)) ?_)
  have hneO : ∀ p ∈ (L + 1, oc2) :: (l0, PySem.W.listOf vs0.toArray e0) :: (pl, PySem.W.listOf #[.ref c0.t, .ref c1.t, .ref c2.t, .ref c3.t, .ref c4.t] ep) ::
      (c0.t, tupOf #[.ref c0.k, .ref c0.o] c0.nt) :: (c1.t, tupOf #[.ref c1.k, .ref c1.o] c1.nt) :: (c2.t, tupOf #[.ref c2.k, .ref c2.o] c2.nt) :: (c3.t, tupOf #[.ref c3.k, .ref c3.o] c3.nt) :: (c4.t, tupOf #[.ref c4.k, .ref c4.o] c4.nt) ::
      own, p.1 ≠ c0.o := by
    repeat (first | exact fun p hp => aO p hp _ (.tail _ (.head _)) | refine fa_cons (hneO0 _ (by k_mem)) ?_)
  have fxo : @Ne Nat c0.dx c0.o := G0.ne
  have fdx : @Ne Nat c0.dx deck := hneD _ (.head _)
  have fdo : @Ne Nat c0.o deck := hneD _ (.tail _ (.head _))
  clear hl9 hsub hneX0 hneO0
  have inO1 : ∀ p ∈ full c1, p ∈ own := fun p hp => by rw [← hown]; exact List.mem_append_right _ (List.mem_append_left _ hp)
  have inO2 : ∀ p ∈ full c2, p ∈ own := fun p hp => by rw [← hown]; exact List.mem_append_right _ (List.mem_append_right _ (List.mem_append_left _ hp))
  have inO3 : ∀ p ∈ full c3, p ∈ own := fun p hp => by rw [← hown]; exact List.mem_append_right _ (List.mem_append_right _ (List.mem_append_right _ (List.mem_append_left _ hp)))
  have inO4 : ∀ p ∈ full c4, p ∈ own := fun p hp => by rw [← hown]; exact List.mem_append_right _ (List.mem_append_right _ (List.mem_append_right _ (List.mem_append_right _ hp)))
  have inR : ∀ p ∈ c0.rest, p ∈ own := fun p hp => by rw [← hown]; exact List.mem_append_left _ hp
  have fin : ∀ (kd' o8 : Obj) (ch0 : Ch (Ch Empty)) (n' : Int) (t' : Tok) (e' : Nat) (h' : Heap) (tk' : Nat) (m' : Str → Option Value), Fr g L h' m' → News g L h' ((deck, PySem.W.listOf #[.ref l0, .int n' t'] e') :: (c0.dx, kd') :: (c0.o, o8) :: (L + 1, oc2) :: (l0, PySem.W.listOf vs0.toArray e0) :: (pl, PySem.W.listOf #[.ref c0.t, .ref c1.t, .ref c2.t, .ref c3.t, .ref c4.t] ep) ::
      (c0.t, tupOf #[.ref c0.k, .ref c0.o] c0.nt) :: (c1.t, tupOf #[.ref c1.k, .ref c1.o] c1.nt) :: (c2.t, tupOf #[.ref c2.k, .ref c2.o] c2.nt) :: (c3.t, tupOf #[.ref c3.k, .ref c3.o] c3.nt) :: (c4.t, tupOf #[.ref c4.k, .ref c4.o] c4.nt) ::
      own) →
      Told ((c0.dx, kd') :: (c0.o, o8) :: own) (fun h => KC w (KC w RE) h c0.k ch0 ∧ OC w (OC w RE) h c0.o ch0) → 0 ≤ n' → n' ≤ 251 → m' (PySem.Str.ofString "pairs") = some (.ref pl) → S3 w g L s { s with heap := h', toks := tk' } := by
    intro kd' o8 ch0 n' t' e' h' tk' m' F' N' T0 b1 b2 hm'
    refine ⟨⟨deck, l0, pl, ep, e0, vs0, oc2, pick5 c0.k c1.k c2.k c3.k c4.k, pick5 c0.o c1.o c2.o c3.o c4.o, pick5 c0.t c1.t c2.t c3.t c4.t, pick5 c0.nt c1.nt c2.nt c3.nt c4.nt, pick5 ch0 [c1.l] [c2.l] [c3.l] [c4.l], (c0.dx, kd') :: (c0.o, o8) :: own⟩,
      n', t', e', h', tk', m', rfl, ⟨?_, l0ne, ⟨ns0, hi0, hlen0⟩, hc, ?_⟩, F', hm', ?_, b1, b2⟩
    · intro i hi
      match i, hi with
      | 0, _ => exact T0
      | 1, _ => exact (full_told G1).weak (subs_tail (subs_tail inO1))
      | 2, _ => exact (full_told G2).weak (subs_tail (subs_tail inO2))
      | 3, _ => exact (full_told G3).weak (subs_tail (subs_tail inO3))
      | 4, _ => exact (full_told G4).weak (subs_tail (subs_tail inO4))
    · unfold Fx.base
      repeat (first | exact fa_cons fdx (fa_cons fdo fun p hp => hneD p (by repeat (first | exact hp | refine List.Mem.tail _ ?_))) | refine fa_cons (hneD _ (by k_mem)) ?_)
    · unfold Fx.base
      refine News.sub N' ?_
      repeat (first | exact subs_refl | refine subs_cons (by k_mem) ?_ | refine subs_tail ?_)
  refine cut (S3 w g L s) ?st ?rest
  case rest => exact fun s' p => next s' (by exact rfl) p
  case st =>
    have hoo := G0.hoo
    have kne : c0.k ≠ c0.dx := G0.off _ G0.ink _ (.head _)
    clear N hne next
    k_steps
    · have hfull : ∀ p ∈ full c4, h5.get? p.1 = some p.2 := fun p hp => (N5 p (by have := inO4 p hp; repeat (first | exact this | refine List.Mem.tail _ ?_))).1
      obtain ⟨gh, gh1, gh2⟩ := ghost hfull
      have hk4 : KC w (KC w RE) gh c4.k [c4.l] := (full_told G4 gh gh1).1
      have mk0 : (c0.k, instObj 122 c0.dx) ∈ own := inR _ G0.ink
      have N3 : News g L h5 [(c0.k, instObj 122 c0.dx), (c0.dx, kmDict c0.h1 c0.h2 c0.h3 c0.h4 c0.h5 c0.t1 c0.t2 c0.t3 c0.t4 c0.t5 c0.tq c0.r c0.l.dflt.isSome c0.dv .none)] := News.sub N5 fun p hp => by
        rcases List.mem_cons.mp hp with rfl | hp
        · repeat (first | exact mk0 | refine List.Mem.tail _ ?_)
        · rw [List.mem_singleton.mp hp]; exact .tail _ (.head _)
      refine wpAny_call (setpar_code (Rdy.le (Rd _ _ _ F5 N3) (by decide)) (g₀ := gh) (ghost_keep gh2 hfull) ?_ hk4 kne.symm ?_)
      · intro p hp
        refine ghost_none gh2 fun q hq => ?_
        have hq' : q ∈ c4.objs := .tail _ hq
        rcases List.mem_cons.mp hp with rfl | hp
        · exact Ne.symm (p04 (c0.k, instObj 122 c0.dx) (.tail _ (.tail _ (.tail _ G0.ink))) q hq')
        · rw [List.mem_singleton.mp hp]
          exact Ne.symm (p04 (c0.dx, c0.kd .none) (.tail _ (.head _)) q hq')
      intro h6 tk6 kp6 hdx6
      obtain ⟨F6, N6⟩ := keep_put F5 N5 (.tail (Ne.symm fdx) (.head hneX)) kp6 hdx6
      clear N5 F5 N3
      k_steps
      exact CutF.mk (fin _ _ [c0.l, c4.l] (n + 1) t5 e5 h8 _ _ F8 N8 (fun h hh => by
        have hr : ∀ p ∈ c0.rest, h.get? p.1 = some p.2 := fun p hp => hh p (.tail _ (.tail _ (inR p hp)))
        have hf4 : ∀ p ∈ full c4, h.get? p.1 = some p.2 := fun p hp => hh p (.tail _ (.tail _ (inO4 p hp)))
        exact ⟨⟨c4.k, G0.T1 h hr (.ref c4.k) (hh _ (.head _)), (full_told G4 h hf4).1⟩, ⟨c4.o, G0.T2 h hr (.ref c4.o) _ hd8 (hh _ (.tail _ (.head _))), (full_told G4 h hf4).2⟩⟩) (by omega) (by omega) rfl)
    · exact CutF.mk (fin _ _ [c0.l] (n + 1) t5 e5 h5 _ _ F5 N5 (fun h hh => by
        have hr : ∀ p ∈ c0.rest, h.get? p.1 = some p.2 := fun p hp => hh p (.tail _ (.tail _ (inR p hp)))
        exact ⟨G0.T1 h hr .none (hh _ (.head _)), G0.T2 h hr .none _ G0.hoo (hh _ (.tail _ (.head _)))⟩) (by omega) (by omega) rfl)
structure Pm where
  (b0 b1 bg ba bl bw bo : Bool) (onl eo ml m0 m1 em n0 n1 gl eg tg ng mi ei ap ea lo el wm ew ov ev du ed ma ez : Nat) (ta tb tc : Tok)
noncomputable def Pm.zero : Pm := ⟨false, false, false, false, false, false, false, 0, 0, 0, 0, 0, 0, 0, 0, 0, 0, 0, 0, 0, 0, 0, 0, 0, 0, 0, 0, 0, 0, 0, 0, 0, 0, 0, 0, 0⟩
noncomputable def oOn (p : Pm) : List (Addr × Obj) := [(p.onl, PySem.W.listOf #[.bool p.b0, .bool p.b1] p.eo)]
noncomputable def oModes (x : Fx) (p : Pm) : List (Addr × Obj) := [(p.ml, PySem.W.listOf #[.ref p.m0, .ref p.m1] p.em), (p.m0, tupOf #[.str (PySem.Str.ofString "m") p.ta, .bool p.b0, .ref (x.k 0)] p.n0), (p.m1, tupOf #[.str (PySem.Str.ofString "n") p.tb, .bool p.b1, .ref (x.k 1)] p.n1)]
noncomputable def oGiven (x : Fx) (p : Pm) : List (Addr × Obj) := match p.bg with
  | true => [(p.gl, PySem.W.listOf #[.ref p.tg] p.eg), (p.tg, tupOf #[.str (PySem.Str.ofString "n") p.tc, .ref (x.k 2)] p.ng)]
  | false => [(p.gl, PySem.W.listOf #[] p.eg)]
noncomputable def iMin0 (p : Pm) : List Nat := if p.b0 = true then [0] else []
noncomputable def iMin (p : Pm) : List Nat := iMin0 p ++ (if p.b1 = true then [if p.bg = true then 2 else 1] else [])
noncomputable def iAp (p : Pm) : List Nat := if p.ba = true then [3] else []
noncomputable def iLo (p : Pm) : List Nat := if p.bl = true then [2] else []
noncomputable def iWm (p : Pm) : List Nat := if p.bw = true then [4] else []
noncomputable def iOv (p : Pm) : List Nat := if p.bo = true then [1] else []
noncomputable def iDu (p : Pm) : List Nat := if p.bo = true then iOv p ++ iWm p else iAp p ++ iMin p ++ iLo p ++ iWm p
noncomputable def oMin0 (x : Fx) (p : Pm) : List (Addr × Obj) := [(p.mi, PySem.W.listOf (tl x (iMin0 p)).toArray p.ei)]
noncomputable def oMin (x : Fx) (p : Pm) : List (Addr × Obj) := [(p.mi, PySem.W.listOf (tl x (iMin p)).toArray p.ei)]
noncomputable def oAp (x : Fx) (p : Pm) : List (Addr × Obj) := [(p.ap, PySem.W.listOf (tl x (iAp p)).toArray p.ea)]
noncomputable def oLo (x : Fx) (p : Pm) : List (Addr × Obj) := [(p.lo, PySem.W.listOf (tl x (iLo p)).toArray p.el)]
noncomputable def oWm (x : Fx) (p : Pm) : List (Addr × Obj) := [(p.wm, PySem.W.listOf (tl x (iWm p)).toArray p.ew)]
noncomputable def oOv (x : Fx) (p : Pm) : List (Addr × Obj) := [(p.ov, PySem.W.listOf (tl x (iOv p)).toArray p.ev)]
noncomputable def oDu (x : Fx) (p : Pm) : List (Addr × Obj) := [(p.du, PySem.W.listOf (tl x (iDu p)).toArray p.ed)]
noncomputable def oMa (x : Fx) (p : Pm) : List (Addr × Obj) := [(p.ma, PySem.W.listOf (kl x (iDu p)).toArray p.ez)]
noncomputable def Q3 (g : Heap) (L : Addr) (s₀ : Shared) (x : Fx) (s : Shared) : Prop := ∃ p : Pm, Sx g L s₀ x 251 [(PySem.Str.ofString "pairs", .ref x.pl)] ([]) s
noncomputable def Q4 (g : Heap) (L : Addr) (s₀ : Shared) (x : Fx) (s : Shared) : Prop := ∃ p : Pm, Sx g L s₀ x 253 [(PySem.Str.ofString "pairs", .ref x.pl), (PySem.Str.ofString "on", .ref p.onl)] (oOn p) s
noncomputable def Q5 (g : Heap) (L : Addr) (s₀ : Shared) (x : Fx) (s : Shared) : Prop := ∃ p : Pm, Sx g L s₀ x 253 [(PySem.Str.ofString "pairs", .ref x.pl), (PySem.Str.ofString "on", .ref p.onl), (PySem.Str.ofString "modes", .ref p.ml)] (oOn p ++ oModes x p) s
noncomputable def Q6 (g : Heap) (L : Addr) (s₀ : Shared) (x : Fx) (s : Shared) : Prop := ∃ p : Pm, Sx g L s₀ x 254 [(PySem.Str.ofString "pairs", .ref x.pl), (PySem.Str.ofString "on", .ref p.onl), (PySem.Str.ofString "modes", .ref p.ml), (PySem.Str.ofString "given", .ref p.gl)] (oOn p ++ oModes x p ++ oGiven x p) s
noncomputable def Q7 (g : Heap) (L : Addr) (s₀ : Shared) (x : Fx) (s : Shared) : Prop := ∃ p : Pm, Sx g L s₀ x 254 [(PySem.Str.ofString "pairs", .ref x.pl), (PySem.Str.ofString "on", .ref p.onl), (PySem.Str.ofString "modes", .ref p.ml), (PySem.Str.ofString "given", .ref p.gl), (PySem.Str.ofString "minor", .ref p.mi)] (oOn p ++ oModes x p ++ oGiven x p ++ oMin0 x p) s
noncomputable def Q8 (g : Heap) (L : Addr) (s₀ : Shared) (x : Fx) (s : Shared) : Prop := ∃ p : Pm, Sx g L s₀ x 254 [(PySem.Str.ofString "pairs", .ref x.pl), (PySem.Str.ofString "modes", .ref p.ml), (PySem.Str.ofString "given", .ref p.gl), (PySem.Str.ofString "minor", .ref p.mi)] (oModes x p ++ oGiven x p ++ oMin x p) s
noncomputable def Q9 (g : Heap) (L : Addr) (s₀ : Shared) (x : Fx) (s : Shared) : Prop := ∃ p : Pm, Sx g L s₀ x 255 [(PySem.Str.ofString "pairs", .ref x.pl), (PySem.Str.ofString "modes", .ref p.ml), (PySem.Str.ofString "given", .ref p.gl), (PySem.Str.ofString "minor", .ref p.mi), (PySem.Str.ofString "at_point", .ref p.ap)] (oModes x p ++ oGiven x p ++ oMin x p ++ oAp x p) s
noncomputable def Q10 (g : Heap) (L : Addr) (s₀ : Shared) (x : Fx) (s : Shared) : Prop := ∃ p : Pm, Sx g L s₀ x 257 [(PySem.Str.ofString "pairs", .ref x.pl), (PySem.Str.ofString "modes", .ref p.ml), (PySem.Str.ofString "given", .ref p.gl), (PySem.Str.ofString "minor", .ref p.mi), (PySem.Str.ofString "at_point", .ref p.ap), (PySem.Str.ofString "local", .ref p.lo), (PySem.Str.ofString "whole_map", .ref p.wm)] (oModes x p ++ oGiven x p ++ oMin x p ++ oAp x p ++ oLo x p ++ oWm x p) s
noncomputable def Q11 (g : Heap) (L : Addr) (s₀ : Shared) (x : Fx) (s : Shared) : Prop := ∃ p : Pm, Sx g L s₀ x 258 [(PySem.Str.ofString "pairs", .ref x.pl), (PySem.Str.ofString "modes", .ref p.ml), (PySem.Str.ofString "given", .ref p.gl), (PySem.Str.ofString "minor", .ref p.mi), (PySem.Str.ofString "at_point", .ref p.ap), (PySem.Str.ofString "local", .ref p.lo), (PySem.Str.ofString "whole_map", .ref p.wm), (PySem.Str.ofString "over", .ref p.ov)] (oModes x p ++ oGiven x p ++ oMin x p ++ oAp x p ++ oLo x p ++ oWm x p ++ oOv x p) s
noncomputable def Q12 (g : Heap) (L : Addr) (s₀ : Shared) (x : Fx) (s : Shared) : Prop := ∃ p : Pm, Sx g L s₀ x 258 [(PySem.Str.ofString "modes", .ref p.ml), (PySem.Str.ofString "given", .ref p.gl), (PySem.Str.ofString "at_point", .ref p.ap), (PySem.Str.ofString "local", .ref p.lo), (PySem.Str.ofString "whole_map", .ref p.wm), (PySem.Str.ofString "over", .ref p.ov), (PySem.Str.ofString "due", .ref p.du)] (oModes x p ++ oGiven x p ++ oAp x p ++ oLo x p ++ oWm x p ++ oOv x p ++ oDu x p) s
noncomputable def Q13 (g : Heap) (L : Addr) (s₀ : Shared) (x : Fx) (s : Shared) : Prop := ∃ p : Pm, Sx g L s₀ x 258 [(PySem.Str.ofString "due", .ref p.du), (PySem.Str.ofString "maps", .ref p.ma)] (oDu x p ++ oMa x p) s
theorem law_3 {w : World} {A : Around} {E : Value → Shared → Prop} {s₀ s : Shared} {Q : Flow → Shared → Prop} {g : Heap} {L fa : Addr} {cdv : Value} {mean : ExcName → Option Value} {mg mb : Str → Option Value} {rest : List Stmt} {scope : Scope} {x : Fx}
    (h1 : restAt PW 39 3 = some (rest, scope)) (hh : A.handled = none) (Rd : ∀ (h' : Heap) (m' : Str → Option Value) (nw : List (Addr × Obj)), Fr g L h' m' → News g L h' nw → Rdy w A 100 h' nw) (X : (KK w.params).In g) (T : Top VW LS mean mg mb g) (ok : x.Ok w L) (hs : Q3 g L s₀ x s)
    (next : ∀ {rest : List Stmt} {scope : Scope} (s' : Shared), restAt PW 39 4 = some (rest, scope) → Q4 g L s₀ x s' → wpAny (model RP w) A (execs rest (envOfC (PySem.Str.ofString "law") scope L fa cdv)) Q E s') :
    wpAny (model RP w) A (execs rest (envOfC (PySem.Str.ofString "law") scope L fa cdv)) Q E s := by
  refine' open_rest (g := fun p => restAt p 39 3) h1 ?h2 ?_
  case h2 => exact rfl
  obtain ⟨p, n, t, e, h', tk', m', R, rfl, F, ⟨e0, -⟩, N, off, ho, hb, c1, c2⟩ := hs
  obtain ⟨ah, dp, ev, gd, un⟩ := A
  obtain rfl : ah = none := hh
  obtain ⟨ns0, hi0, hlen0⟩ := ok.isInts
  have hc := ok.hc
  have l0ne := ok.ne
  dsimp only at e0
  rw [m_at e0] at F
  have need : ∀ q ∈ [] ++ x.base L, q ∈ R := mem_split (fun q hq => ho q (by first | exact hq | (simp only [List.mem_append] at hq ⊢; simp [hq]; done) | (simp [hq]; done) | (simp only [List.mem_append] at hq ⊢; rcases hq with (hq | hq) | hq <;> simp [hq]; done) | (simp at hq))) hb
  have N5 := News.ahead N need
  have off5 := off_ahead off need
  simp only [Fx.base, List.cons_append, List.nil_append] at N5 off5
  refine cut (Q4 g L s₀ x) ?st ?rest
  case rest => exact fun s' p => next s' (by exact rfl) p
  case st =>
    clear N next
    k_steps
    rename_i onl _ l9 _ F9 N9
    exact CutF.mk ⟨{ Pm.zero with onl := onl, b0 := _, b1 := _ }, Sx.mk (nw := [(onl, _)]) (nd := x.base L) F9 N9 ⟨rfl, rfl, trivial⟩ off (fun p hp => by rw [List.mem_singleton.mp hp]; exact Nat.ne_of_gt l9.1) hb (fun p hp => List.mem_append_left _ hp) (by omega) (by omega)⟩
theorem law_4 {w : World} {A : Around} {E : Value → Shared → Prop} {s₀ s : Shared} {Q : Flow → Shared → Prop} {g : Heap} {L fa : Addr} {cdv : Value} {mean : ExcName → Option Value} {mg mb : Str → Option Value} {rest : List Stmt} {scope : Scope} {x : Fx}
    (h1 : restAt PW 39 4 = some (rest, scope)) (hh : A.handled = none) (Rd : ∀ (h' : Heap) (m' : Str → Option Value) (nw : List (Addr × Obj)), Fr g L h' m' → News g L h' nw → Rdy w A 100 h' nw) (X : (KK w.params).In g) (T : Top VW LS mean mg mb g) (ok : x.Ok w L) (hs : Q4 g L s₀ x s)
    (next : ∀ {rest : List Stmt} {scope : Scope} (s' : Shared), restAt PW 39 5 = some (rest, scope) → Q5 g L s₀ x s' → wpAny (model RP w) A (execs rest (envOfC (PySem.Str.ofString "law") scope L fa cdv)) Q E s') :
    wpAny (model RP w) A (execs rest (envOfC (PySem.Str.ofString "law") scope L fa cdv)) Q E s := by
  refine' open_rest (g := fun p => restAt p 39 4) h1 ?h2 ?_
  case h2 => exact rfl
  obtain ⟨p, n, t, e, h', tk', m', R, rfl, F, ⟨e0, e1, -⟩, N, off, ho, hb, c1, c2⟩ := hs
  obtain ⟨ah, dp, ev, gd, un⟩ := A
  obtain rfl : ah = none := hh
  dsimp only at e0 e1
  rw [m_at e0, m_at e1] at F
  have need : ∀ q ∈ oOn p ++ x.base L, q ∈ R := mem_split (fun q hq => ho q (by first | exact hq | (simp only [List.mem_append] at hq ⊢; simp [hq]; done) | (simp [hq]; done) | (simp only [List.mem_append] at hq ⊢; rcases hq with (hq | hq) | hq <;> simp [hq]; done) | (simp at hq))) hb
  have N5 := News.ahead N need
  have off5 := off_ahead off need
  simp only [oOn, Fx.base, List.cons_append, List.nil_append] at N5 off5
  obtain ⟨pl, hP⟩ : ∃ a, a = x.pl := ⟨_, rfl⟩
  obtain ⟨deck, hD⟩ : ∃ a, a = x.deck := ⟨_, rfl⟩
  obtain ⟨a0, hA0⟩ : ∃ a, a = p.onl := ⟨_, rfl⟩
  (try rw [← hD] at F)
  (try rw [← hD] at N5)
  (try rw [← hD] at off5)
  (try rw [← hP] at F)
  (try rw [← hP] at N5)
  (try rw [← hP] at off5)
  (try rw [← hA0] at F)
  (try rw [← hA0] at N5)
  (try rw [← hA0] at off5)
  refine cut (Q5 g L s₀ x) ?st ?rest
  case rest => exact fun s' p => next s' (by exact rfl) p
  case st =>
    clear N next
    k_steps
    rename_i T0 _ lA T1 _ lB ml _ lC _ F9 N9
    subst hP
    subst hD
    subst hA0
    exact CutF.mk ⟨{ p with ml := ml, m0 := T0, m1 := T1, em := 0, n0 := 0, n1 := 0, ta := _, tb := _ }, Sx.mk (nw := [(ml, _), (T1, _), (T0, _)]) (nd := oOn p ++ x.base L) F9 N9 ⟨rfl, rfl, rfl, trivial⟩ off (fun q hq => by
      simp only [List.mem_cons, List.not_mem_nil, or_false] at hq
      rcases hq with rfl | rfl | rfl <;> exact neN (by simp only; omega)) hb (fun q hq => by
      simp only [oOn, oModes, List.mem_append, List.mem_cons, List.not_mem_nil, or_false] at hq ⊢
      rcases hq with rfl | rfl | rfl | rfl
      · exact .inr (ho _ (.head _))
      · exact .inl (.inl rfl)
      · exact .inl (.inr (.inr rfl))
      · exact .inl (.inr (.inl rfl))) (by omega) (by omega)⟩
theorem law_5 {w : World} {A : Around} {E : Value → Shared → Prop} {s₀ s : Shared} {Q : Flow → Shared → Prop} {g : Heap} {L fa : Addr} {cdv : Value} {mean : ExcName → Option Value} {mg mb : Str → Option Value} {rest : List Stmt} {scope : Scope} {x : Fx}
    (h1 : restAt PW 39 5 = some (rest, scope)) (hh : A.handled = none) (Rd : ∀ (h' : Heap) (m' : Str → Option Value) (nw : List (Addr × Obj)), Fr g L h' m' → News g L h' nw → Rdy w A 100 h' nw) (X : (KK w.params).In g) (T : Top VW LS mean mg mb g) (ok : x.Ok w L) (hs : Q5 g L s₀ x s)
    (next : ∀ {rest : List Stmt} {scope : Scope} (s' : Shared), restAt PW 39 6 = some (rest, scope) → Q6 g L s₀ x s' → wpAny (model RP w) A (execs rest (envOfC (PySem.Str.ofString "law") scope L fa cdv)) Q E s') :
    wpAny (model RP w) A (execs rest (envOfC (PySem.Str.ofString "law") scope L fa cdv)) Q E s := by
  refine' open_rest (g := fun p => restAt p 39 5) h1 ?h2 ?_
  case h2 => exact rfl
  obtain ⟨p, n, t, e, h', tk', m', R, rfl, F, ⟨e0, e1, e2, -⟩, N, off, ho, hb, c1, c2⟩ := hs
  obtain ⟨ah, dp, ev, gd, un⟩ := A
  obtain rfl : ah = none := hh
  obtain ⟨ns0, hi0, hlen0⟩ := ok.isInts
  have hc := ok.hc
  have l0ne := ok.ne
  dsimp only at e0 e1 e2
  rw [m_at e0, m_at e1, m_at e2] at F
  have need : ∀ q ∈ [] ++ x.base L, q ∈ R := mem_split (fun q hq => ho q (by first | exact hq | (simp only [List.mem_append] at hq ⊢; simp [hq]; done) | (simp [hq]; done) | (simp only [List.mem_append] at hq ⊢; rcases hq with (hq | hq) | hq <;> simp [hq]; done) | (simp at hq))) hb
  have N5 := News.ahead N need
  have off5 := off_ahead off need
  simp only [Fx.base, List.cons_append, List.nil_append] at N5 off5
  obtain ⟨pl, hP⟩ : ∃ a, a = x.pl := ⟨_, rfl⟩
  (try rw [← hP] at F)
  (try rw [← hP] at N5)
  (try rw [← hP] at off5)
  refine cut (Q6 g L s₀ x) ?st ?rest
  case rest => exact fun s' p => next s' (by exact rfl) p
  case st =>
    clear N next
    k_steps
    · rename_i tg _ lA gl _ lB _ F9 N9
      subst hP
      exact CutF.mk ⟨{ p with bg := true, gl := gl, eg := 0, tg := tg, ng := 0, tc := _ }, Sx.mk (nw := [(gl, _), (tg, _)]) (nd := x.base L) F9 N9 ⟨rfl, rfl, rfl, rfl, trivial⟩ off (fun q hq => by
      simp only [List.mem_cons, List.not_mem_nil, or_false] at hq
      rcases hq with rfl | rfl <;> exact neN (by simp only; omega)) hb (fun q hq => (List.mem_append.mp hq).elim (fun h => List.mem_append_right _ (ho q h)) (fun h => List.mem_append_left _ h)) (by omega) (by omega)⟩
    · rename_i gl _ lB _ F9 N9
      subst hP
      exact CutF.mk ⟨{ p with bg := false, gl := gl, eg := 0 }, Sx.mk (nw := [(gl, _)]) (nd := x.base L) F9 N9 ⟨rfl, rfl, rfl, rfl, trivial⟩ off (fun q hq => by rw [List.mem_singleton.mp hq]; exact neN (by simp only; omega)) hb (fun q hq => (List.mem_append.mp hq).elim (fun h => List.mem_append_right _ (ho q h)) (fun h => List.mem_append_left _ h)) (by omega) (by omega)⟩
theorem law_6 {w : World} {A : Around} {E : Value → Shared → Prop} {s₀ s : Shared} {Q : Flow → Shared → Prop} {g : Heap} {L fa : Addr} {cdv : Value} {mean : ExcName → Option Value} {mg mb : Str → Option Value} {rest : List Stmt} {scope : Scope} {x : Fx}
    (h1 : restAt PW 39 6 = some (rest, scope)) (hh : A.handled = none) (Rd : ∀ (h' : Heap) (m' : Str → Option Value) (nw : List (Addr × Obj)), Fr g L h' m' → News g L h' nw → Rdy w A 100 h' nw) (X : (KK w.params).In g) (T : Top VW LS mean mg mb g) (ok : x.Ok w L) (hs : Q6 g L s₀ x s)
    (next : ∀ {rest : List Stmt} {scope : Scope} (s' : Shared), restAt PW 39 7 = some (rest, scope) → Q7 g L s₀ x s' → wpAny (model RP w) A (execs rest (envOfC (PySem.Str.ofString "law") scope L fa cdv)) Q E s') :
    wpAny (model RP w) A (execs rest (envOfC (PySem.Str.ofString "law") scope L fa cdv)) Q E s := by
  refine' open_rest (g := fun p => restAt p 39 6) h1 ?h2 ?_
  case h2 => exact rfl
  obtain ⟨p, n, t, e, h', tk', m', R, rfl, F, ⟨e0, e1, e2, e3, -⟩, N, off, ho, hb, c1, c2⟩ := hs
  obtain ⟨ah, dp, ev, gd, un⟩ := A
  obtain rfl : ah = none := hh
  dsimp only at e0 e1 e2 e3
  rw [m_at e0, m_at e1, m_at e2, m_at e3] at F
  have need : ∀ q ∈ oOn p ++ x.base L, q ∈ R := mem_split (fun q hq => ho q (by first | exact hq | (simp only [List.mem_append] at hq ⊢; simp [hq]; done) | (simp [hq]; done) | (simp only [List.mem_append] at hq ⊢; rcases hq with (hq | hq) | hq <;> simp [hq]; done) | (simp at hq))) hb
  have N5 := News.ahead N need
  have off5 := off_ahead off need
  simp only [oOn, Fx.base, List.cons_append, List.nil_append] at N5 off5
  obtain ⟨pl, hP⟩ : ∃ a, a = x.pl := ⟨_, rfl⟩
  obtain ⟨deck, hD⟩ : ∃ a, a = x.deck := ⟨_, rfl⟩
  obtain ⟨a0, hA0⟩ : ∃ a, a = p.onl := ⟨_, rfl⟩
  (try rw [← hD] at F)
  (try rw [← hD] at N5)
  (try rw [← hD] at off5)
  (try rw [← hP] at F)
  (try rw [← hP] at N5)
  (try rw [← hP] at off5)
  (try rw [← hA0] at F)
  (try rw [← hA0] at N5)
  (try rw [← hA0] at off5)
  refine cut (Q7 g L s₀ x) ?st ?rest
  case rest => exact fun s' p => next s' (by exact rfl) p
  case st =>
    clear N next
    k_steps
    · rename_i hb0 mi _ lB _ F9 N9
      subst hP
      subst hD
      subst hA0
      have eq : tl x (iMin0 p) = [.ref (x.t 0)] := by simp [tl, iMin0, hb0]
      exact CutF.mk ⟨{ p with mi := mi, ei := 0 }, Sx.mk (nw := [(mi, _)]) (nd := oOn p ++ x.base L) F9 N9 ⟨rfl, rfl, rfl, rfl, rfl, trivial⟩ off (fun q hq => by rw [List.mem_singleton.mp hq]; exact neN (by simp only; omega)) hb (fun q hq => (List.mem_append.mp hq).elim (fun h => List.mem_append_right _ (ho q h)) (fun h => List.mem_append_left _ (by have h : q ∈ [(mi, PySem.W.listOf (tl x (iMin0 p)).toArray 0)] := h; rw [eq] at h; exact h))) (by omega) (by omega)⟩
    · rename_i hb0 mi _ lB _ F9 N9
      subst hP
      subst hD
      subst hA0
      have eq : tl x (iMin0 p) = [] := by simp [tl, iMin0, hb0]
      exact CutF.mk ⟨{ p with mi := mi, ei := 0 }, Sx.mk (nw := [(mi, _)]) (nd := oOn p ++ x.base L) F9 N9 ⟨rfl, rfl, rfl, rfl, rfl, trivial⟩ off (fun q hq => by rw [List.mem_singleton.mp hq]; exact neN (by simp only; omega)) hb (fun q hq => (List.mem_append.mp hq).elim (fun h => List.mem_append_right _ (ho q h)) (fun h => List.mem_append_left _ (by have h : q ∈ [(mi, PySem.W.listOf (tl x (iMin0 p)).toArray 0)] := h; rw [eq] at h; exact h))) (by omega) (by omega)⟩
theorem refs_tl (x : Fx) (is : List Nat) : ∀ v ∈ tl x is, ∃ b, v = Value.ref b := fun v hv => by
  obtain ⟨i, _, rfl⟩ := List.mem_map.mp hv
  exact ⟨_, rfl⟩
theorem list_ne_deck {h₀ h : Heap} {L a deck l0 : Addr} {news : List (Addr × Obj)} {vs : List Value} {k e : Nat} {n : Int} {t : Tok} (N : News h₀ L h news) (h1 : (a, PySem.W.listOf vs.toArray k) ∈ news) (h2 : (deck, PySem.W.listOf #[.ref l0, .int n t] e) ∈ news) (hr : ∀ v ∈ vs, ∃ b, v = Value.ref b) : a ≠ deck :=
  News.obj_ne N h1 h2 fun q => by
    have q : vs.toArray = #[.ref l0, .int n t] := by injection q with _ _ q; injection q
    have q2 : vs = [.ref l0, .int n t] := congrArg Array.toList q
    obtain ⟨b, hb⟩ := hr (.int n t) (by rw [q2]; simp)
    cases hb
theorem min_end {g : Heap} {L : Addr} {s₀ : Shared} {x : Fx} {p : Pm} {n : Int} {t : Tok} {e mi : Nat} {h' : Heap} {tk' : Nat} {m' : Str → Option Value} {R nw nd : List (Addr × Obj)} {us : List Value} (F : Fr g L h' m')
    (N : News g L h' ((mi, PySem.W.listOf us.toArray 0) :: (nw ++ (x.deck, PySem.W.listOf #[.ref x.l0, .int n t] e) :: (nd ++ R)))) (eq : us = tl x (iMin p)) (hm : Nm [(PySem.Str.ofString "pairs", .ref x.pl), (PySem.Str.ofString "modes", .ref p.ml), (PySem.Str.ofString "given", .ref p.gl), (PySem.Str.ofString "minor", .ref mi)] m')
    (off : ∀ p ∈ R, p.1 ≠ x.deck) (offn : ∀ p ∈ nw, p.1 ≠ x.deck) (hb : ∀ p ∈ x.base L, p ∈ R) (ho : ∀ q ∈ oModes x p ++ oGiven x p, q ∈ R) (b1 : 0 ≤ n) (b2 : n ≤ 254) : Q8 g L s₀ x { s₀ with heap := h', toks := tk' } := by
  subst eq
  refine ⟨{ p with mi := mi, ei := 0 }, Sx.mk (nw := (mi, _) :: nw) (nd := nd) F N hm off (fun q hq => ?_) hb ?_ b1 b2⟩
  · rcases List.mem_cons.mp hq with rfl | hq
    · exact list_ne_deck N (.head _) (.tail _ (List.mem_append_right _ (.head _))) (refs_tl x _)
    · exact offn q hq
  · exact fun q hq => (List.mem_append.mp hq).elim (fun h => List.mem_append_right _ (ho q h)) (fun h => List.mem_append_left _ (by rw [List.mem_singleton.mp h]; exact .head _))
theorem law_7 {w : World} {A : Around} {E : Value → Shared → Prop} {s₀ s : Shared} {Q : Flow → Shared → Prop} {g : Heap} {L fa : Addr} {cdv : Value} {mean : ExcName → Option Value} {mg mb : Str → Option Value} {rest : List Stmt} {scope : Scope} {x : Fx}
    (h1 : restAt PW 39 7 = some (rest, scope)) (hh : A.handled = none) (Rd : ∀ (h' : Heap) (m' : Str → Option Value) (nw : List (Addr × Obj)), Fr g L h' m' → News g L h' nw → Rdy w A 100 h' nw) (X : (KK w.params).In g) (T : Top VW LS mean mg mb g) (ok : x.Ok w L) (hs : Q7 g L s₀ x s)
    (next : ∀ {rest : List Stmt} {scope : Scope} (s' : Shared), restAt PW 39 8 = some (rest, scope) → Q8 g L s₀ x s' → wpAny (model RP w) A (execs rest (envOfC (PySem.Str.ofString "law") scope L fa cdv)) Q E s') :
    wpAny (model RP w) A (execs rest (envOfC (PySem.Str.ofString "law") scope L fa cdv)) Q E s := by
  refine' open_rest (g := fun p => restAt p 39 7) h1 ?h2 ?_
  case h2 => exact rfl
  obtain ⟨p, n, t, e, h', tk', m', R, rfl, F, ⟨e0, e1, e2, e3, e4, -⟩, N, off, ho, hb, c1, c2⟩ := hs
  obtain ⟨ah, dp, ev, gd, un⟩ := A
  obtain rfl : ah = none := hh
  dsimp only at e0 e1 e2 e3 e4
  rw [m_at e0, m_at e1, m_at e2, m_at e3, m_at e4] at F
  have need : ∀ q ∈ (oOn p ++ oGiven x p ++ oMin0 x p) ++ x.base L, q ∈ R := mem_split (fun q hq => ho q (by first | exact hq | (simp only [List.mem_append] at hq ⊢; simp [hq]; done) | (simp [hq]; done) | (simp only [List.mem_append] at hq ⊢; rcases hq with (hq | hq) | hq <;> simp [hq]; done) | (simp at hq))) hb
  have N5 := News.ahead N need
  have off5 := off_ahead off need
  generalize hvm : tl x (iMin0 p) = vm
  have hzm : vm.length ≤ 9 := by rw [← hvm]; simp only [tl, iMin0, List.length_map]; split <;> simp
  have hzm' : vm.toArray.size ≤ sizeLine := by rw [sizeLine_eq, List.size_toArray]; omega
  have hMG : ∀ q ∈ oModes x p ++ oGiven x p, q ∈ R := fun q hq => ho q (by simp only [List.mem_append] at hq ⊢; rcases hq with hq | hq <;> simp [hq])
  cases hbg : p.bg
  · have og : oGiven x p = [(p.gl, PySem.W.listOf #[] p.eg)] := by simp only [oGiven, hbg]
    rw [og] at N5 off5
    simp only [oOn, oMin0, Fx.base, List.cons_append, List.nil_append] at N5 off5
    rw [hvm] at N5 off5
    obtain ⟨pl, hP⟩ : ∃ a, a = x.pl := ⟨_, rfl⟩
    obtain ⟨deck, hD⟩ : ∃ a, a = x.deck := ⟨_, rfl⟩
    obtain ⟨a0, hA0⟩ : ∃ a, a = p.onl := ⟨_, rfl⟩
    obtain ⟨a1, hA1⟩ : ∃ a, a = p.gl := ⟨_, rfl⟩
    obtain ⟨a2, hA2⟩ : ∃ a, a = p.mi := ⟨_, rfl⟩
    (try rw [← hD] at F)
    (try rw [← hD] at N5)
    (try rw [← hD] at off5)
    (try rw [← hP] at F)
    (try rw [← hP] at N5)
    (try rw [← hP] at off5)
    (try rw [← hA0] at F)
    (try rw [← hA0] at N5)
    (try rw [← hA0] at off5)
    (try rw [← hA1] at F)
    (try rw [← hA1] at N5)
    (try rw [← hA1] at off5)
    (try rw [← hA2] at F)
    (try rw [← hA2] at N5)
    (try rw [← hA2] at off5)
    refine cut (Q8 g L s₀ x) ?st ?rest
    case rest => exact fun s' p => next s' (by exact rfl) p
    case st =>
      clear N next
      k_steps
      · rename_i hb1 lx _ lA ly _ lB _ _ F9 N9
        subst hP
        subst hD
        exact CutF.mk (min_end (p := p) (nw := [(ly, _), (lx, _)]) (nd := oOn p ++ [(p.gl, PySem.W.listOf #[] p.eg)] ++ [(p.mi, PySem.W.listOf vm.toArray p.ei)] ++ x.base L) (us := vm ++ [.ref (x.t 1)]) F9 (by rw [hA0, hA1, hA2] at N9; exact N9) (by rw [← hvm]; simp [tl, iMin, hbg, hb1]) ⟨rfl, rfl, congrArg (fun a => some (Value.ref a)) hA1, rfl, trivial⟩ off (fun q hq => by
      simp only [List.mem_cons, List.not_mem_nil, or_false] at hq
      rcases hq with rfl | rfl <;> exact neN (by simp only; omega)) hb hMG (by omega) (by omega))
      · rename_i hb1 lx _ lA _ _ F9 N9
        subst hP
        subst hD
        exact CutF.mk (min_end (p := p) (nw := [(lx, _)]) (nd := oOn p ++ [(p.gl, PySem.W.listOf #[] p.eg)] ++ [(p.mi, PySem.W.listOf vm.toArray p.ei)] ++ x.base L) (us := vm ++ []) F9 (by rw [hA0, hA1, hA2] at N9; exact N9) (by rw [← hvm]; simp [tl, iMin, hbg, hb1]) ⟨rfl, rfl, congrArg (fun a => some (Value.ref a)) hA1, rfl, trivial⟩ off (fun q hq => by rw [List.mem_singleton.mp hq]; exact neN (by simp only; omega)) hb hMG (by omega) (by omega))
  · have og : oGiven x p = [(p.gl, PySem.W.listOf #[.ref p.tg] p.eg), (p.tg, tupOf #[.str (PySem.Str.ofString "n") p.tc, .ref (x.k 2)] p.ng)] := by simp only [oGiven, hbg]
    rw [og] at N5 off5
    simp only [oOn, oMin0, Fx.base, List.cons_append, List.nil_append] at N5 off5
    rw [hvm] at N5 off5
    obtain ⟨pl, hP⟩ : ∃ a, a = x.pl := ⟨_, rfl⟩
    obtain ⟨deck, hD⟩ : ∃ a, a = x.deck := ⟨_, rfl⟩
    obtain ⟨a0, hA0⟩ : ∃ a, a = p.onl := ⟨_, rfl⟩
    obtain ⟨a1, hA1⟩ : ∃ a, a = p.gl := ⟨_, rfl⟩
    obtain ⟨a2, hA2⟩ : ∃ a, a = p.mi := ⟨_, rfl⟩
    (try rw [← hD] at F)
    (try rw [← hD] at N5)
    (try rw [← hD] at off5)
    (try rw [← hP] at F)
    (try rw [← hP] at N5)
    (try rw [← hP] at off5)
    (try rw [← hA0] at F)
    (try rw [← hA0] at N5)
    (try rw [← hA0] at off5)
    (try rw [← hA1] at F)
    (try rw [← hA1] at N5)
    (try rw [← hA1] at off5)
    (try rw [← hA2] at F)
    (try rw [← hA2] at N5)
    (try rw [← hA2] at off5)
    refine cut (Q8 g L s₀ x) ?st ?rest
    case rest => exact fun s' p => next s' (by exact rfl) p
    case st =>
      clear N next
      k_steps
      · rename_i hb1 lx _ lA ly _ lB _ _ F9 N9
        subst hP
        subst hD
        exact CutF.mk (min_end (p := p) (nw := [(ly, _), (lx, _)]) (nd := oOn p ++ [(p.gl, PySem.W.listOf #[.ref p.tg] p.eg), (p.tg, tupOf #[.str (PySem.Str.ofString "n") p.tc, .ref (x.k 2)] p.ng)] ++ [(p.mi, PySem.W.listOf vm.toArray p.ei)] ++ x.base L) (us := vm ++ [.ref (x.t 2)]) F9 (by rw [hA0, hA1, hA2] at N9; exact N9) (by rw [← hvm]; simp [tl, iMin, hbg, hb1]) ⟨rfl, rfl, congrArg (fun a => some (Value.ref a)) hA1, rfl, trivial⟩ off (fun q hq => by
      simp only [List.mem_cons, List.not_mem_nil, or_false] at hq
      rcases hq with rfl | rfl <;> exact neN (by simp only; omega)) hb hMG (by omega) (by omega))
      · rename_i hb1 lx _ lA _ _ F9 N9
        subst hP
        subst hD
        exact CutF.mk (min_end (p := p) (nw := [(lx, _)]) (nd := oOn p ++ [(p.gl, PySem.W.listOf #[.ref p.tg] p.eg), (p.tg, tupOf #[.str (PySem.Str.ofString "n") p.tc, .ref (x.k 2)] p.ng)] ++ [(p.mi, PySem.W.listOf vm.toArray p.ei)] ++ x.base L) (us := vm ++ []) F9 (by rw [hA0, hA1, hA2] at N9; exact N9) (by rw [← hvm]; simp [tl, iMin, hbg, hb1]) ⟨rfl, rfl, congrArg (fun a => some (Value.ref a)) hA1, rfl, trivial⟩ off (fun q hq => by rw [List.mem_singleton.mp hq]; exact neN (by simp only; omega)) hb hMG (by omega) (by omega))
theorem law_8 {w : World} {A : Around} {E : Value → Shared → Prop} {s₀ s : Shared} {Q : Flow → Shared → Prop} {g : Heap} {L fa : Addr} {cdv : Value} {mean : ExcName → Option Value} {mg mb : Str → Option Value} {rest : List Stmt} {scope : Scope} {x : Fx}
    (h1 : restAt PW 39 8 = some (rest, scope)) (hh : A.handled = none) (Rd : ∀ (h' : Heap) (m' : Str → Option Value) (nw : List (Addr × Obj)), Fr g L h' m' → News g L h' nw → Rdy w A 100 h' nw) (X : (KK w.params).In g) (T : Top VW LS mean mg mb g) (ok : x.Ok w L) (hs : Q8 g L s₀ x s)
    (next : ∀ {rest : List Stmt} {scope : Scope} (s' : Shared), restAt PW 39 9 = some (rest, scope) → Q9 g L s₀ x s' → wpAny (model RP w) A (execs rest (envOfC (PySem.Str.ofString "law") scope L fa cdv)) Q E s') :
    wpAny (model RP w) A (execs rest (envOfC (PySem.Str.ofString "law") scope L fa cdv)) Q E s := by
  refine' open_rest (g := fun p => restAt p 39 8) h1 ?h2 ?_
  case h2 => exact rfl
  obtain ⟨p, n, t, e, h', tk', m', R, rfl, F, ⟨e0, e1, e2, e3, -⟩, N, off, ho, hb, c1, c2⟩ := hs
  obtain ⟨ah, dp, ev, gd, un⟩ := A
  obtain rfl : ah = none := hh
  obtain ⟨ns0, hi0, hlen0⟩ := ok.isInts
  have hc := ok.hc
  have l0ne := ok.ne
  dsimp only at e0 e1 e2 e3
  rw [m_at e0, m_at e1, m_at e2, m_at e3] at F
  have need : ∀ q ∈ [] ++ x.base L, q ∈ R := mem_split (fun q hq => ho q (by first | exact hq | (simp only [List.mem_append] at hq ⊢; simp [hq]; done) | (simp [hq]; done) | (simp only [List.mem_append] at hq ⊢; rcases hq with (hq | hq) | hq <;> simp [hq]; done) | (simp at hq))) hb
  have N5 := News.ahead N need
  have off5 := off_ahead off need
  simp only [Fx.base, List.cons_append, List.nil_append] at N5 off5
  obtain ⟨pl, hP⟩ : ∃ a, a = x.pl := ⟨_, rfl⟩
  (try rw [← hP] at F)
  (try rw [← hP] at N5)
  (try rw [← hP] at off5)
  refine cut (Q9 g L s₀ x) ?st ?rest
  case rest => exact fun s' p => next s' (by exact rfl) p
  case st =>
    clear N next
    k_steps
    · rename_i hd ap _ lB _ F9 N9
      subst hP
      have eq : tl x (iAp { p with ba := true }) = [.ref (x.t 3)] := by simp [tl, iAp]
      exact CutF.mk ⟨{ p with ba := true, ap := ap, ea := 0 }, Sx.mk (nw := [(ap, _)]) (nd := x.base L) F9 N9 ⟨rfl, rfl, rfl, rfl, rfl, trivial⟩ off (fun q hq => by rw [List.mem_singleton.mp hq]; exact neN (by simp only; omega)) hb (fun q hq => (List.mem_append.mp hq).elim (fun h => List.mem_append_right _ (ho q h)) (fun h => List.mem_append_left _ (by have h : q ∈ [(ap, PySem.W.listOf (tl x (iAp { p with ba := true })).toArray 0)] := h; rw [eq] at h; exact h))) (by omega) (by omega)⟩
    · rename_i hd ap _ lB _ F9 N9
      subst hP
      have eq : tl x (iAp { p with ba := false }) = [] := by simp [tl, iAp]
      exact CutF.mk ⟨{ p with ba := false, ap := ap, ea := 0 }, Sx.mk (nw := [(ap, _)]) (nd := x.base L) F9 N9 ⟨rfl, rfl, rfl, rfl, rfl, trivial⟩ off (fun q hq => by rw [List.mem_singleton.mp hq]; exact neN (by simp only; omega)) hb (fun q hq => (List.mem_append.mp hq).elim (fun h => List.mem_append_right _ (ho q h)) (fun h => List.mem_append_left _ (by have h : q ∈ [(ap, PySem.W.listOf (tl x (iAp { p with ba := false })).toArray 0)] := h; rw [eq] at h; exact h))) (by omega) (by omega)⟩
theorem law_9 {w : World} {A : Around} {E : Value → Shared → Prop} {s₀ s : Shared} {Q : Flow → Shared → Prop} {g : Heap} {L fa : Addr} {cdv : Value} {mean : ExcName → Option Value} {mg mb : Str → Option Value} {rest : List Stmt} {scope : Scope} {x : Fx}
    (h1 : restAt PW 39 9 = some (rest, scope)) (hh : A.handled = none) (Rd : ∀ (h' : Heap) (m' : Str → Option Value) (nw : List (Addr × Obj)), Fr g L h' m' → News g L h' nw → Rdy w A 100 h' nw) (X : (KK w.params).In g) (T : Top VW LS mean mg mb g) (ok : x.Ok w L) (hs : Q9 g L s₀ x s)
    (next : ∀ {rest : List Stmt} {scope : Scope} (s' : Shared), restAt PW 39 10 = some (rest, scope) → Q10 g L s₀ x s' → wpAny (model RP w) A (execs rest (envOfC (PySem.Str.ofString "law") scope L fa cdv)) Q E s') :
    wpAny (model RP w) A (execs rest (envOfC (PySem.Str.ofString "law") scope L fa cdv)) Q E s := by
  refine' open_rest (g := fun p => restAt p 39 9) h1 ?h2 ?_
  case h2 => exact rfl
  obtain ⟨p, n, t, e, h', tk', m', R, rfl, F, ⟨e0, e1, e2, e3, e4, -⟩, N, off, ho, hb, c1, c2⟩ := hs
  obtain ⟨ah, dp, ev, gd, un⟩ := A
  obtain rfl : ah = none := hh
  obtain ⟨ns0, hi0, hlen0⟩ := ok.isInts
  have hc := ok.hc
  have l0ne := ok.ne
  dsimp only at e0 e1 e2 e3 e4
  rw [m_at e0, m_at e1, m_at e2, m_at e3, m_at e4] at F
  have need : ∀ q ∈ [] ++ x.base L, q ∈ R := mem_split (fun q hq => ho q (by first | exact hq | (simp only [List.mem_append] at hq ⊢; simp [hq]; done) | (simp [hq]; done) | (simp only [List.mem_append] at hq ⊢; rcases hq with (hq | hq) | hq <;> simp [hq]; done) | (simp at hq))) hb
  have N5 := News.ahead N need
  have off5 := off_ahead off need
  simp only [Fx.base, List.cons_append, List.nil_append] at N5 off5
  obtain ⟨pl, hP⟩ : ∃ a, a = x.pl := ⟨_, rfl⟩
  (try rw [← hP] at F)
  (try rw [← hP] at N5)
  (try rw [← hP] at off5)
  refine cut (Q10 g L s₀ x) ?st ?rest
  case rest => exact fun s' p => next s' (by exact rfl) p
  case st =>
    clear N next
    k_steps
    · rename_i lo _ lL hw wm _ lA D _ lB _ _ _ F9 N9
      subst hP
      have eq1 : tl x (iLo { p with bl := true }) = [.ref (x.t 2)] := by simp [tl, iLo]
      have eq2 : tl x (iWm { p with bw := true }) = [.ref (x.t 4)] := by simp [tl, iWm]
      exact CutF.mk ⟨{ p with bl := true, bw := true, lo := lo, el := 0, wm := wm, ew := 0 }, Sx.mk (nw := [(D, _), (wm, _), (lo, _)]) (nd := x.base L) F9 N9 ⟨rfl, rfl, rfl, rfl, rfl, rfl, rfl, trivial⟩ off (fun q hq => by
      simp only [List.mem_cons, List.not_mem_nil, or_false] at hq
      rcases hq with rfl | rfl | rfl <;> exact neN (by simp only; omega)) hb (fun q hq => (List.mem_append.mp hq).elim (fun h => (List.mem_append.mp h).elim (fun h => List.mem_append_right _ (ho q h)) (fun h => List.mem_append_left _ (by
        have h : q ∈ [(lo, PySem.W.listOf (tl x (iLo { p with bl := true })).toArray 0)] := h
        rw [eq1] at h
        rw [List.mem_singleton.mp h]; exact .tail _ (.tail _ (.head _))))) (fun h => List.mem_append_left _ (by
        have h : q ∈ [(wm, PySem.W.listOf (tl x (iWm { p with bw := true })).toArray 0)] := h
        rw [eq2] at h
        rw [List.mem_singleton.mp h]; exact .tail _ (.head _)))) (by omega) (by omega)⟩
    · rename_i lo _ lL hw wm _ lA D _ lB _ _ _ F9 N9
      subst hP
      have eq1 : tl x (iLo { p with bl := true }) = [.ref (x.t 2)] := by simp [tl, iLo]
      have eq2 : tl x (iWm { p with bw := false }) = [] := by simp [tl, iWm]
      exact CutF.mk ⟨{ p with bl := true, bw := false, lo := lo, el := 0, wm := wm, ew := 0 }, Sx.mk (nw := [(D, _), (wm, _), (lo, _)]) (nd := x.base L) F9 N9 ⟨rfl, rfl, rfl, rfl, rfl, rfl, rfl, trivial⟩ off (fun q hq => by
      simp only [List.mem_cons, List.not_mem_nil, or_false] at hq
      rcases hq with rfl | rfl | rfl <;> exact neN (by simp only; omega)) hb (fun q hq => (List.mem_append.mp hq).elim (fun h => (List.mem_append.mp h).elim (fun h => List.mem_append_right _ (ho q h)) (fun h => List.mem_append_left _ (by
        have h : q ∈ [(lo, PySem.W.listOf (tl x (iLo { p with bl := true })).toArray 0)] := h
        rw [eq1] at h
        rw [List.mem_singleton.mp h]; exact .tail _ (.tail _ (.head _))))) (fun h => List.mem_append_left _ (by
        have h : q ∈ [(wm, PySem.W.listOf (tl x (iWm { p with bw := false })).toArray 0)] := h
        rw [eq2] at h
        rw [List.mem_singleton.mp h]; exact .tail _ (.head _)))) (by omega) (by omega)⟩
    · rename_i lo _ lL hw wm _ lA D _ lB _ _ _ F9 N9
      subst hP
      have eq1 : tl x (iLo { p with bl := false }) = [] := by simp [tl, iLo]
      have eq2 : tl x (iWm { p with bw := true }) = [.ref (x.t 4)] := by simp [tl, iWm]
      exact CutF.mk ⟨{ p with bl := false, bw := true, lo := lo, el := 0, wm := wm, ew := 0 }, Sx.mk (nw := [(D, _), (wm, _), (lo, _)]) (nd := x.base L) F9 N9 ⟨rfl, rfl, rfl, rfl, rfl, rfl, rfl, trivial⟩ off (fun q hq => by
      simp only [List.mem_cons, List.not_mem_nil, or_false] at hq
      rcases hq with rfl | rfl | rfl <;> exact neN (by simp only; omega)) hb (fun q hq => (List.mem_append.mp hq).elim (fun h => (List.mem_append.mp h).elim (fun h => List.mem_append_right _ (ho q h)) (fun h => List.mem_append_left _ (by
        have h : q ∈ [(lo, PySem.W.listOf (tl x (iLo { p with bl := false })).toArray 0)] := h
        rw [eq1] at h
        rw [List.mem_singleton.mp h]; exact .tail _ (.tail _ (.head _))))) (fun h => List.mem_append_left _ (by
        have h : q ∈ [(wm, PySem.W.listOf (tl x (iWm { p with bw := true })).toArray 0)] := h
        rw [eq2] at h
        rw [List.mem_singleton.mp h]; exact .tail _ (.head _)))) (by omega) (by omega)⟩
    · rename_i lo _ lL hw wm _ lA D _ lB _ _ _ F9 N9
      subst hP
      have eq1 : tl x (iLo { p with bl := false }) = [] := by simp [tl, iLo]
      have eq2 : tl x (iWm { p with bw := false }) = [] := by simp [tl, iWm]
      exact CutF.mk ⟨{ p with bl := false, bw := false, lo := lo, el := 0, wm := wm, ew := 0 }, Sx.mk (nw := [(D, _), (wm, _), (lo, _)]) (nd := x.base L) F9 N9 ⟨rfl, rfl, rfl, rfl, rfl, rfl, rfl, trivial⟩ off (fun q hq => by
      simp only [List.mem_cons, List.not_mem_nil, or_false] at hq
      rcases hq with rfl | rfl | rfl <;> exact neN (by simp only; omega)) hb (fun q hq => (List.mem_append.mp hq).elim (fun h => (List.mem_append.mp h).elim (fun h => List.mem_append_right _ (ho q h)) (fun h => List.mem_append_left _ (by
        have h : q ∈ [(lo, PySem.W.listOf (tl x (iLo { p with bl := false })).toArray 0)] := h
        rw [eq1] at h
        rw [List.mem_singleton.mp h]; exact .tail _ (.tail _ (.head _))))) (fun h => List.mem_append_left _ (by
        have h : q ∈ [(wm, PySem.W.listOf (tl x (iWm { p with bw := false })).toArray 0)] := h
        rw [eq2] at h
        rw [List.mem_singleton.mp h]; exact .tail _ (.head _)))) (by omega) (by omega)⟩
theorem law_10 {w : World} {A : Around} {E : Value → Shared → Prop} {s₀ s : Shared} {Q : Flow → Shared → Prop} {g : Heap} {L fa : Addr} {cdv : Value} {mean : ExcName → Option Value} {mg mb : Str → Option Value} {rest : List Stmt} {scope : Scope} {x : Fx}
    (h1 : restAt PW 39 10 = some (rest, scope)) (hh : A.handled = none) (Rd : ∀ (h' : Heap) (m' : Str → Option Value) (nw : List (Addr × Obj)), Fr g L h' m' → News g L h' nw → Rdy w A 100 h' nw) (X : (KK w.params).In g) (T : Top VW LS mean mg mb g) (ok : x.Ok w L) (hs : Q10 g L s₀ x s)
    (next : ∀ {rest : List Stmt} {scope : Scope} (s' : Shared), restAt PW 39 11 = some (rest, scope) → Q11 g L s₀ x s' → wpAny (model RP w) A (execs rest (envOfC (PySem.Str.ofString "law") scope L fa cdv)) Q E s') :
    wpAny (model RP w) A (execs rest (envOfC (PySem.Str.ofString "law") scope L fa cdv)) Q E s := by
  refine' open_rest (g := fun p => restAt p 39 10) h1 ?h2 ?_
  case h2 => exact rfl
  obtain ⟨p, n, t, e, h', tk', m', R, rfl, F, ⟨e0, e1, e2, e3, e4, e5, e6, -⟩, N, off, ho, hb, c1, c2⟩ := hs
  obtain ⟨ah, dp, ev, gd, un⟩ := A
  obtain rfl : ah = none := hh
  obtain ⟨ns0, hi0, hlen0⟩ := ok.isInts
  have hc := ok.hc
  have l0ne := ok.ne
  dsimp only at e0 e1 e2 e3 e4 e5 e6
  rw [m_at e0, m_at e1, m_at e2, m_at e3, m_at e4, m_at e5, m_at e6] at F
  have need : ∀ q ∈ [] ++ x.base L, q ∈ R := mem_split (fun q hq => ho q (by first | exact hq | (simp only [List.mem_append] at hq ⊢; simp [hq]; done) | (simp [hq]; done) | (simp only [List.mem_append] at hq ⊢; rcases hq with (hq | hq) | hq <;> simp [hq]; done) | (simp at hq))) hb
  have N5 := News.ahead N need
  have off5 := off_ahead off need
  simp only [Fx.base, List.cons_append, List.nil_append] at N5 off5
  obtain ⟨pl, hP⟩ : ∃ a, a = x.pl := ⟨_, rfl⟩
  (try rw [← hP] at F)
  (try rw [← hP] at N5)
  (try rw [← hP] at off5)
  refine cut (Q11 g L s₀ x) ?st ?rest
  case rest => exact fun s' p => next s' (by exact rfl) p
  case st =>
    clear N next
    k_steps
    · rename_i hd ov _ lB _ F9 N9
      subst hP
      have eq : tl x (iOv { p with bo := true }) = [.ref (x.t 1)] := by simp [tl, iOv]
      exact CutF.mk ⟨{ p with bo := true, ov := ov, ev := 0 }, Sx.mk (nw := [(ov, _)]) (nd := x.base L) F9 N9 ⟨rfl, rfl, rfl, rfl, rfl, rfl, rfl, rfl, trivial⟩ off (fun q hq => by rw [List.mem_singleton.mp hq]; exact neN (by simp only; omega)) hb (fun q hq => (List.mem_append.mp hq).elim (fun h => List.mem_append_right _ (ho q h)) (fun h => List.mem_append_left _ (by have h : q ∈ [(ov, PySem.W.listOf (tl x (iOv { p with bo := true })).toArray 0)] := h; rw [eq] at h; exact h))) (by omega) (by omega)⟩
    · rename_i hd ov _ lB _ F9 N9
      subst hP
      have eq : tl x (iOv { p with bo := false }) = [] := by simp [tl, iOv]
      exact CutF.mk ⟨{ p with bo := false, ov := ov, ev := 0 }, Sx.mk (nw := [(ov, _)]) (nd := x.base L) F9 N9 ⟨rfl, rfl, rfl, rfl, rfl, rfl, rfl, rfl, trivial⟩ off (fun q hq => by rw [List.mem_singleton.mp hq]; exact neN (by simp only; omega)) hb (fun q hq => (List.mem_append.mp hq).elim (fun h => List.mem_append_right _ (ho q h)) (fun h => List.mem_append_left _ (by have h : q ∈ [(ov, PySem.W.listOf (tl x (iOv { p with bo := false })).toArray 0)] := h; rw [eq] at h; exact h))) (by omega) (by omega)⟩
theorem refs_app {a b : List Value} (h1 : ∀ v ∈ a, ∃ b, v = Value.ref b) (h2 : ∀ v ∈ b, ∃ b, v = Value.ref b) : ∀ v ∈ a ++ b, ∃ b, v = Value.ref b := fun v hv => (List.mem_append.mp hv).elim (h1 v) (h2 v)
theorem due_end {g : Heap} {L : Addr} {s₀ : Shared} {x : Fx} {p : Pm} {n : Int} {t : Tok} {e du : Nat} {h' : Heap} {tk' : Nat} {m' : Str → Option Value} {R nw nd : List (Addr × Obj)} {us : List Value} (F : Fr g L h' m')
    (N : News g L h' ((du, PySem.W.listOf us.toArray 0) :: (nw ++ (x.deck, PySem.W.listOf #[.ref x.l0, .int n t] e) :: (nd ++ R)))) (eq : us = tl x (iDu p)) (hm : Nm [(PySem.Str.ofString "modes", .ref p.ml), (PySem.Str.ofString "given", .ref p.gl), (PySem.Str.ofString "at_point", .ref p.ap), (PySem.Str.ofString "local", .ref p.lo), (PySem.Str.ofString "whole_map", .ref p.wm), (PySem.Str.ofString "over", .ref p.ov), (PySem.Str.ofString "due", .ref du)] m')
    (off : ∀ p ∈ R, p.1 ≠ x.deck) (hb : ∀ p ∈ x.base L, p ∈ R) (ho : ∀ q ∈ oModes x p ++ oGiven x p ++ oAp x p ++ oLo x p ++ oWm x p ++ oOv x p, q ∈ R) (b1 : 0 ≤ n) (b2 : n ≤ 258) : Q12 g L s₀ x { s₀ with heap := h', toks := tk' } := by
  subst eq
  refine ⟨{ p with du := du, ed := 0 }, Sx.mk (n := n) (t := t) (e := e) (R := R) (nw := [(du, PySem.W.listOf (tl x (iDu p)).toArray 0)]) (nd := nd) F (News.sub N fun q hq => ?_) hm off (fun q hq => ?_) hb ?_ b1 b2⟩
  · rcases List.mem_cons.mp hq with rfl | hq
    · exact .head _
    · exact .tail _ (List.mem_append_right _ hq)
  · rw [List.mem_singleton.mp hq]
    exact list_ne_deck N (.head _) (.tail _ (List.mem_append_right _ (.head _))) (refs_tl x _)
  · exact fun q hq => (List.mem_append.mp hq).elim (fun h => List.mem_append_right _ (ho q h)) (fun h => List.mem_append_left _ h)
theorem tl_len (x : Fx) {is : List Nat} (h : is.length ≤ 9) : (tl x is).length ≤ 9 ∧ (tl x is).toArray.size ≤ sizeLine := by
  have e : (tl x is).length = is.length := List.length_map ..
  refine ⟨by omega, ?_⟩
  rw [sizeLine_eq, List.size_toArray]; omega
theorem iMin_len (p : Pm) : (iMin p).length ≤ 2 := by
  unfold iMin iMin0
  cases p.b0 <;> cases p.b1 <;> simp
theorem law_11 {w : World} {A : Around} {E : Value → Shared → Prop} {s₀ s : Shared} {Q : Flow → Shared → Prop} {g : Heap} {L fa : Addr} {cdv : Value} {mean : ExcName → Option Value} {mg mb : Str → Option Value} {rest : List Stmt} {scope : Scope} {x : Fx}
    (h1 : restAt PW 39 11 = some (rest, scope)) (hh : A.handled = none) (Rd : ∀ (h' : Heap) (m' : Str → Option Value) (nw : List (Addr × Obj)), Fr g L h' m' → News g L h' nw → Rdy w A 100 h' nw) (X : (KK w.params).In g) (T : Top VW LS mean mg mb g) (ok : x.Ok w L) (hs : Q11 g L s₀ x s)
    (next : ∀ {rest : List Stmt} {scope : Scope} (s' : Shared), restAt PW 39 12 = some (rest, scope) → Q12 g L s₀ x s' → wpAny (model RP w) A (execs rest (envOfC (PySem.Str.ofString "law") scope L fa cdv)) Q E s') :
    wpAny (model RP w) A (execs rest (envOfC (PySem.Str.ofString "law") scope L fa cdv)) Q E s := by
  refine' open_rest (g := fun p => restAt p 39 11) h1 ?h2 ?_
  case h2 => exact rfl
  obtain ⟨p, n, t, e, h', tk', m', R, rfl, F, ⟨e0, e1, e2, e3, e4, e5, e6, e7, -⟩, N, off, ho, hb, c1, c2⟩ := hs
  obtain ⟨ah, dp, ev, gd, un⟩ := A
  obtain rfl : ah = none := hh
  dsimp only at e0 e1 e2 e3 e4 e5 e6 e7
  rw [m_at e0, m_at e1, m_at e2, m_at e3, m_at e4, m_at e5, m_at e6, m_at e7] at F
  have need : ∀ q ∈ (oAp x p ++ oMin x p ++ oLo x p ++ oWm x p ++ oOv x p) ++ x.base L, q ∈ R := mem_split (fun q hq => ho q (by first | (simp only [List.mem_append] at hq ⊢; rcases hq with (((hq | hq) | hq) | hq) | hq <;> simp [hq]; done) | exact hq | (simp only [List.mem_append] at hq ⊢; simp [hq]; done) | (simp [hq]; done) | (simp only [List.mem_append] at hq ⊢; rcases hq with (hq | hq) | hq <;> simp [hq]; done) | (simp at hq))) hb
  have N5 := News.ahead N need
  have off5 := off_ahead off need
  have hz1 := tl_len x (is := iAp p) (by unfold iAp; split <;> simp)
  have hz2 := tl_len x (is := iMin p) (Nat.le_trans (iMin_len p) (by decide))
  have hz3 := tl_len x (is := iLo p) (by unfold iLo; split <;> simp)
  have hz4 := tl_len x (is := iWm p) (by unfold iWm; split <;> simp)
  have r1 := refs_tl x (iAp p)
  have r2 := refs_tl x (iMin p)
  have r3 := refs_tl x (iLo p)
  have r4 := refs_tl x (iWm p)
  have hall : ∀ q ∈ oModes x p ++ oGiven x p ++ oAp x p ++ oLo x p ++ oWm x p ++ oOv x p, q ∈ R := fun q hq => ho q (by
    simp only [List.mem_append] at hq ⊢
    rcases hq with ((((hq | hq) | hq) | hq) | hq) | hq <;> simp [hq])
  cases hbo : p.bo
  · have eo : tl x (iOv p) = [] := by simp [tl, iOv, hbo]
    have ed : tl x (iDu p) = tl x (iAp p) ++ tl x (iMin p) ++ tl x (iLo p) ++ tl x (iWm p) := by simp [tl, iDu, iOv, hbo]
    simp only [oAp, oMin, oLo, oWm, oOv, Fx.base, List.cons_append, List.nil_append] at N5 off5
    rw [eo] at N5 off5
    generalize hva : tl x (iAp p) = va at N5 hz1 r1 ed
    generalize hvm : tl x (iMin p) = vm at N5 hz2 r2 ed
    generalize hvl : tl x (iLo p) = vl at N5 hz3 r3 ed
    generalize hvw : tl x (iWm p) = vw at N5 hz4 r4 ed
    obtain ⟨ha1, ha2⟩ := hz1
    obtain ⟨hm1, hm2⟩ := hz2
    obtain ⟨hl1, hl2⟩ := hz3
    obtain ⟨hw1, hw2⟩ := hz4
    clear off5
    obtain ⟨pl, hP⟩ : ∃ a, a = x.pl := ⟨_, rfl⟩
    obtain ⟨deck, hD⟩ : ∃ a, a = x.deck := ⟨_, rfl⟩
    obtain ⟨a0, hA0⟩ : ∃ a, a = p.ap := ⟨_, rfl⟩
    obtain ⟨a1, hA1⟩ : ∃ a, a = p.mi := ⟨_, rfl⟩
    obtain ⟨a2, hA2⟩ : ∃ a, a = p.lo := ⟨_, rfl⟩
    obtain ⟨a3, hA3⟩ : ∃ a, a = p.wm := ⟨_, rfl⟩
    obtain ⟨a4, hA4⟩ : ∃ a, a = p.ov := ⟨_, rfl⟩
    (try rw [← hD] at F)
    (try rw [← hD] at N5)
    (try rw [← hP] at F)
    (try rw [← hP] at N5)
    (try rw [← hA0] at F)
    (try rw [← hA0] at N5)
    (try rw [← hA1] at F)
    (try rw [← hA1] at N5)
    (try rw [← hA2] at F)
    (try rw [← hA2] at N5)
    (try rw [← hA3] at F)
    (try rw [← hA3] at N5)
    (try rw [← hA4] at F)
    (try rw [← hA4] at N5)
    refine cut (Q12 g L s₀ x) ?st ?rest
    case rest => exact fun s' p => next s' (by exact rfl) p
    case st =>
      clear N next
      k_steps
      rename_i lx _ lA _ _ _ _ F9 N9
      subst hP
      subst hD
      rw [hA0, hA1, hA2, hA3, hA4] at N9
      exact CutF.mk (due_end (p := p) (nw := [(_, _), (_, _), (lx, _)]) (nd := [(p.ap, PySem.W.listOf va.toArray p.ea), (p.mi, PySem.W.listOf vm.toArray p.ei), (p.lo, PySem.W.listOf vl.toArray p.el), (p.wm, PySem.W.listOf vw.toArray p.ew), (p.ov, PySem.W.listOf [].toArray p.ev)] ++ x.base L) (us := va ++ vm ++ vl ++ vw) F9 N9 ed.symm ⟨rfl, rfl, congrArg (fun a => some (Value.ref a)) hA0, congrArg (fun a => some (Value.ref a)) hA2, congrArg (fun a => some (Value.ref a)) hA3, congrArg (fun a => some (Value.ref a)) hA4, rfl, trivial⟩ off hb hall (by omega) (by omega))
  · have eo : tl x (iOv p) = [.ref (x.t 1)] := by simp [tl, iOv, hbo]
    have ed : tl x (iDu p) = [.ref (x.t 1)] ++ tl x (iWm p) := by simp [tl, iDu, iOv, hbo]
    simp only [oAp, oMin, oLo, oWm, oOv, Fx.base, List.cons_append, List.nil_append] at N5 off5
    rw [eo] at N5 off5
    generalize hva : tl x (iAp p) = va at N5 hz1 r1 ed
    generalize hvm : tl x (iMin p) = vm at N5 hz2 r2 ed
    generalize hvl : tl x (iLo p) = vl at N5 hz3 r3 ed
    generalize hvw : tl x (iWm p) = vw at N5 hz4 r4 ed
    obtain ⟨ha1, ha2⟩ := hz1
    obtain ⟨hm1, hm2⟩ := hz2
    obtain ⟨hl1, hl2⟩ := hz3
    obtain ⟨hw1, hw2⟩ := hz4
    clear off5
    obtain ⟨pl, hP⟩ : ∃ a, a = x.pl := ⟨_, rfl⟩
    obtain ⟨deck, hD⟩ : ∃ a, a = x.deck := ⟨_, rfl⟩
    obtain ⟨a0, hA0⟩ : ∃ a, a = p.ap := ⟨_, rfl⟩
    obtain ⟨a1, hA1⟩ : ∃ a, a = p.mi := ⟨_, rfl⟩
    obtain ⟨a2, hA2⟩ : ∃ a, a = p.lo := ⟨_, rfl⟩
    obtain ⟨a3, hA3⟩ : ∃ a, a = p.wm := ⟨_, rfl⟩
    obtain ⟨a4, hA4⟩ : ∃ a, a = p.ov := ⟨_, rfl⟩
    (try rw [← hD] at F)
    (try rw [← hD] at N5)
    (try rw [← hP] at F)
    (try rw [← hP] at N5)
    (try rw [← hA0] at F)
    (try rw [← hA0] at N5)
    (try rw [← hA1] at F)
    (try rw [← hA1] at N5)
    (try rw [← hA2] at F)
    (try rw [← hA2] at N5)
    (try rw [← hA3] at F)
    (try rw [← hA3] at N5)
    (try rw [← hA4] at F)
    (try rw [← hA4] at N5)
    refine cut (Q12 g L s₀ x) ?st ?rest
    case rest => exact fun s' p => next s' (by exact rfl) p
    case st =>
      clear N next
      k_steps
      rename_i lx _ lA _ _ F9 N9
      subst hP
      subst hD
      rw [hA0, hA1, hA2, hA3, hA4] at N9
      exact CutF.mk (due_end (p := p) (nw := [(lx, _)]) (nd := [(p.ap, PySem.W.listOf va.toArray p.ea), (p.mi, PySem.W.listOf vm.toArray p.ei), (p.lo, PySem.W.listOf vl.toArray p.el), (p.wm, PySem.W.listOf vw.toArray p.ew), (p.ov, PySem.W.listOf [.ref (x.t 1)].toArray p.ev)] ++ x.base L) (us := [.ref (x.t 1)] ++ vw) F9 N9 ed.symm ⟨rfl, rfl, congrArg (fun a => some (Value.ref a)) hA0, congrArg (fun a => some (Value.ref a)) hA2, congrArg (fun a => some (Value.ref a)) hA3, congrArg (fun a => some (Value.ref a)) hA4, rfl, trivial⟩ off hb hall (by omega) (by omega))
/-- an expression for itself -/
noncomputable def CutV (P : Value → Shared → Prop) (v : Value) (s' : Shared) : Prop := P v s'
theorem cutV {M : Model} {A : Around} {E : Value → Shared → Prop} {m : Sem Value} {Q : Value → Shared → Prop} {s : Shared} (P : Value → Shared → Prop) (h1 : wpAny M A m (CutV P) E s) (h2 : ∀ v s', P v s' → Q v s') : wpAny M A m Q E s := wpAny_mono h1 (fun v s' x => h2 v s' x) (fun _ _ e => e)
theorem refs_kl (x : Fx) (is : List Nat) : ∀ v ∈ kl x is, ∃ b, v = Value.ref b := fun v hv => by
  obtain ⟨i, _, rfl⟩ := List.mem_map.mp hv
  exact ⟨_, rfl⟩
noncomputable def hdO (x : Fx) : List Nat → Option Addr
  | [] => none
  | i :: _ => some (x.k i)
theorem law_12 {w : World} {A : Around} {E : Value → Shared → Prop} {s₀ s : Shared} {Q : Flow → Shared → Prop} {g : Heap} {L fa : Addr} {cdv : Value} {mean : ExcName → Option Value} {mg mb : Str → Option Value} {rest : List Stmt} {scope : Scope} {x : Fx}
    (h1 : restAt PW 39 12 = some (rest, scope)) (hh : A.handled = none) (Rd : ∀ (h' : Heap) (m' : Str → Option Value) (nw : List (Addr × Obj)), Fr g L h' m' → News g L h' nw → Rdy w A 100 h' nw) (X : (KK w.params).In g) (T : Top VW LS mean mg mb g) (ok : x.Ok w L) (hs : Q12 g L s₀ x s)
    (next : ∀ {rest : List Stmt} {scope : Scope} (s' : Shared), restAt PW 39 13 = some (rest, scope) → Q13 g L s₀ x s' → wpAny (model RP w) A (execs rest (envOfC (PySem.Str.ofString "law") scope L fa cdv)) Q E s') :
    wpAny (model RP w) A (execs rest (envOfC (PySem.Str.ofString "law") scope L fa cdv)) Q E s := by
  refine' open_rest (g := fun p => restAt p 39 12) h1 ?h2 ?_
  case h2 => exact rfl
  obtain ⟨p, n, t, e, h', tk', m', R, rfl, F, ⟨e0, e1, e2, e3, e4, e5, e6, -⟩, N, off, ho, hb, c1, c2⟩ := hs
  obtain ⟨ah, dp, ev, gd, un⟩ := A
  obtain rfl : ah = none := hh
  dsimp only at e0 e1 e2 e3 e4 e5 e6
  rw [m_at e0, m_at e1, m_at e2, m_at e3, m_at e4, m_at e5, m_at e6] at F
  have need : ∀ q ∈ (oModes x p ++ oGiven x p ++ oAp x p ++ oLo x p ++ oWm x p ++ oOv x p) ++ x.base L, q ∈ R := mem_split (by repeat' (first | exact (fun q hq => ho q (by repeat (first | with_reducible exact hq | with_reducible exact List.mem_append_right _ hq | refine List.mem_append_left _ ?_))) | refine subs_app ?_ ?_)) hb
  have N5 := News.ahead N need
  have off5 := off_ahead off need
  have N6 : News g L h' ((x.deck, PySem.W.listOf #[.ref x.l0, .int n t] e) :: (oAp x p ++ oLo x p ++ oWm x p ++ oOv x p ++ x.base L ++ (oModes x p ++ oGiven x p ++ R))) := by
    refine News.sub N (subs_cons (.head _) (subs_tail (subs_app (subs_app (subs_app (subs_app (subs_app ?_ ?_) ?_) ?_) hb) (subs_app (subs_app ?_ ?_) subs_refl))))
    all_goals exact fun q hq => ho q (by repeat (first | with_reducible exact hq | with_reducible exact List.mem_append_right _ hq | refine List.mem_append_left _ ?_))
  clear N5
  have N5 := N6
  clear N6 off5
  generalize hO : oModes x p ++ oGiven x p ++ R = own at N5
  simp only [oAp, oLo, oWm, oOv, Fx.base, List.cons_append, List.nil_append] at N5
  generalize hva : tl x (iAp p) = va at N5
  generalize hvl : tl x (iLo p) = vl at N5
  generalize hvw : tl x (iWm p) = vw at N5
  generalize hvo : tl x (iOv p) = vo at N5
  obtain ⟨pl, hP⟩ : ∃ a, a = x.pl := ⟨_, rfl⟩
  obtain ⟨deck, hD⟩ : ∃ a, a = x.deck := ⟨_, rfl⟩
  obtain ⟨a0, hA0⟩ : ∃ a, a = p.ap := ⟨_, rfl⟩
  obtain ⟨a1, hA1⟩ : ∃ a, a = p.lo := ⟨_, rfl⟩
  obtain ⟨a2, hA2⟩ : ∃ a, a = p.wm := ⟨_, rfl⟩
  obtain ⟨a3, hA3⟩ : ∃ a, a = p.ov := ⟨_, rfl⟩
  obtain ⟨a4, hA4⟩ : ∃ a, a = p.ml := ⟨_, rfl⟩
  obtain ⟨a5, hA5⟩ : ∃ a, a = p.gl := ⟨_, rfl⟩
  (try rw [← hD] at F)
  (try rw [← hD] at N5)
  (try rw [← hP] at F)
  (try rw [← hP] at N5)
  (try rw [← hA0] at F)
  (try rw [← hA0] at N5)
  (try rw [← hA1] at F)
  (try rw [← hA1] at N5)
  (try rw [← hA2] at F)
  (try rw [← hA2] at N5)
  (try rw [← hA3] at F)
  (try rw [← hA3] at N5)
  (try rw [← hA4] at F)
  (try rw [← hA4] at N5)
  (try rw [← hA5] at F)
  (try rw [← hA5] at N5)
  refine cut (Q13 g L s₀ x) ?st ?rest
  case rest => exact fun s' p => next s' (by exact rfl) p
  case st =>
    clear N next
    k_steps
    refine Stop.go ?_
    obtain ⟨LED1, hLED1, -⟩ : ∃ l : List (Addr × Obj), l = _ ∧ News g L _ l := ⟨_, rfl, N5⟩
    obtain ⟨mm1, hmm1, -⟩ : ∃ m, m = _ ∧ Fr g L _ m := ⟨_, rfl, F⟩
    refine cutV (fun v s' => v = vO (hdO x (iOv p)) ∧ ∃ h'' tk'', s' = { s₀ with heap := h'', toks := tk'' } ∧ Fr g L h'' mm1 ∧ News g L h'' LED1) ?h1_1 ?h2_1
    case h1_1 =>
      cases hb : p.bo
      · have eo : vo = [] := by rw [← hvo]; simp [tl, iOv, hb]
        have eh : hdO x (iOv p) = none := by simp [hdO, iOv, hb]
        rw [eo] at N5 hLED1
        have go := IfGo.go
        k_steps
        with_reducible rename Fr _ _ _ _ => F9
        with_reducible rename News _ _ _ _ => N9
        exact ⟨by rw [eh]; rfl, _, _, rfl, by rw [hmm1]; exact F9, by rw [hLED1]; exact News.sub N9 (fun q hq => .tail _ hq)⟩
      · have eo : vo = [.ref (x.t 1)] := by rw [← hvo]; simp [tl, iOv, hb]
        have eh : hdO x (iOv p) = some (x.k 1) := by simp [hdO, iOv, hb]
        rw [eo] at N5 hLED1
        have go := IfGo.go
        k_steps
        with_reducible rename Fr _ _ _ _ => F9
        with_reducible rename News _ _ _ _ => N9
        exact ⟨by rw [eh]; rfl, _, _, rfl, by rw [hmm1]; exact F9, by rw [hLED1]; exact News.sub N9 (fun q hq => .tail _ hq)⟩
    case h2_1 =>
    clear F N5
    rintro v1 s' ⟨hv1, hh1, tt1, rfl, F, N5⟩
    subst hmm1
    subst hLED1
    k_steps
    refine Stop.go ?_
    refine comp_J (cl := []) ?hclos ?hcell ?hkind ?hnames ?hx ?hs ?_
    case hclos => with_unfolding_all rfl
    case hcell => decide
    case hkind => exact rfl
    case hnames => decide
    case hx => exact rfl
    case hs => intro _; with_unfolding_all rfl
    k_steps
    refine Stop.go ?_
    have lenA : (iAp p).length ≤ 1 := by unfold iAp; split <;> simp
    have sza : va.toArray.size = (iAp p).length := by rw [← hva, List.size_toArray]; exact List.length_map ..
    refine Blk.list rfl [] (fun i ys _ => ys = kl x ((iAp p).take i)) (N5.get (by k_mem)) (by rw [sza, sizeLine_eq]; omega) (fun _ h => nomatch h) (fun h => nomatch h) (fun _ _ _ _ j _ => j) rfl ?turn ?done
    case turn =>
      intro i vx ys h6 tk6 m6 E6 hv6 hj6 hn6 hm6 kp6
      have hv7 : (tl x (iAp p))[i]? = some vx := by rw [hva]; simpa using hv6
      cases hb : p.ba
      · simp [tl, iAp, hb] at hv7
      · have hi0 : i = 0 := by
          have := (List.getElem?_eq_some_iff.mp hv7).1
          simp [tl, iAp, hb] at this
          exact this
        subst hi0
        have hvx : vx = .ref (x.t 3) := by simp [tl, iAp, hb] at hv7; exact hv7.symm
        subst hvx
        have F6 := Keep.fr kp6 F
        have N6 := Keep.news kp6 N5
        have kt : Keep [] h6 h6 := Keep.refl _ _
        k_unmd; try k_fold
        refine tests_none ?_
        k_steps
        exact TEnd.mk kt (by rw [hj6]; simp [kl, iAp, hb])
    case done =>
    intro hhD tkD ys epD hlD hleD hjD kpD
    have hys : ys = kl x (iAp p) := by rw [hjD, sza, List.take_length]
    subst hys
    clear hjD
    have hDn : hh1.get? (hh1.objs.size + 1) = none := by
      cases q : hh1.get? (hh1.objs.size + 1) with
      | none => rfl
      | some o => exact absurd (nlt q) (by omega)
    have N6 := Keep.add kpD F N5 hlD hDn
    have F6 := Keep.fr kpD F
    clear N5 F
    have N5 := N6
    have F := F6
    clear N6 F6 hlD hDn
    k_steps
    rename_i em hE F N5 lE
    subst hA4
    subst hA5
    have inO : ∀ q ∈ oModes x p ++ oGiven x p, q ∈ own := fun q hq => by rw [← hO]; exact List.mem_append_left _ hq
    refine Stop.go ?_
    obtain ⟨LED2, hLED2, -⟩ : ∃ l : List (Addr × Obj), l = _ ∧ News g L _ l := ⟨_, rfl, N5⟩
    obtain ⟨mm2, hmm2, -⟩ : ∃ m, m = _ ∧ Fr g L _ m := ⟨_, rfl, F⟩
    have inL : ∀ q ∈ oModes x p ++ oGiven x p, q ∈ LED2 := fun q hq => by rw [hLED2]; have := inO q hq; repeat (first | exact this | exact List.mem_append_right x.own this | refine List.Mem.tail _ ?_)
    refine cutV (fun v s' => ∃ l ep h'' tk'', v = .ref l ∧ s' = { s₀ with heap := h'', toks := tk'' } ∧ Fr g L h'' mm2 ∧ News g L h'' ((l, PySem.W.listOf (kl x (iMin p)).toArray ep) :: LED2)) ?h1_m ?h2_m
    case h1_m =>
      have N4 : News g L hE LED2 := by rw [hLED2]; exact N5
      cases hbg : p.bg
      · have N3 : News g L hE [(p.ml, PySem.W.listOf #[.ref p.m0, .ref p.m1] p.em), (p.m0, tupOf #[.str (PySem.Str.ofString "m") p.ta, .bool p.b0, .ref (x.k 0)] p.n0), (p.m1, tupOf #[.str (PySem.Str.ofString "n") p.tb, .bool p.b1, .ref (x.k 1)] p.n1), (p.gl, PySem.W.listOf #[] p.eg)] := News.sub N4 fun q hq => inL q (by
          have og : oGiven x p = [(p.gl, PySem.W.listOf #[] p.eg)] := by simp only [oGiven, hbg]
          rw [og]; exact hq)
        refine wpAny_call (minor0_code (Rdy.le (Rd _ _ _ F N3) (by decide)) ?_)
        intro h'' tk'' l ep vs kp hl hn hv
        have ev : vs = kl x (iMin p) := by
          rw [hv]
          cases h0 : p.b0 <;> cases h1 : p.b1 <;> simp [kl, iMin, iMin0, h0, h1, hbg]
        subst ev
        exact ⟨l, ep, h'', tk'', rfl, rfl, by rw [hmm2]; exact Keep.fr kp F, Keep.add kp F N4 hl hn⟩
      · have N3 : News g L hE [(p.ml, PySem.W.listOf #[.ref p.m0, .ref p.m1] p.em), (p.m0, tupOf #[.str (PySem.Str.ofString "m") p.ta, .bool p.b0, .ref (x.k 0)] p.n0), (p.m1, tupOf #[.str (PySem.Str.ofString "n") p.tb, .bool p.b1, .ref (x.k 1)] p.n1), (p.gl, PySem.W.listOf #[.ref p.tg] p.eg), (p.tg, tupOf #[.str (PySem.Str.ofString "n") p.tc, .ref (x.k 2)] p.ng)] := News.sub N4 fun q hq => inL q (by
          have og : oGiven x p = [(p.gl, PySem.W.listOf #[.ref p.tg] p.eg), (p.tg, tupOf #[.str (PySem.Str.ofString "n") p.tc, .ref (x.k 2)] p.ng)] := by simp only [oGiven, hbg]
          rw [og]; exact hq)
        refine wpAny_call (minor1_code (Rdy.le (Rd _ _ _ F N3) (by decide)) ?_)
        intro h'' tk'' l ep vs kp hl hn hv
        have ev : vs = kl x (iMin p) := by
          rw [hv]
          cases h0 : p.b0 <;> cases h1 : p.b1 <;> simp [kl, iMin, iMin0, h0, h1, hbg]
        subst ev
        exact ⟨l, ep, h'', tk'', rfl, rfl, by rw [hmm2]; exact Keep.fr kp F, Keep.add kp F N4 hl hn⟩
    case h2_m =>
    clear F N5 inL
    rintro v s' ⟨l, epl, hhm, ttm, rfl, rfl, F, N5⟩
    subst hmm2
    subst hLED2
    k_steps
    refine Stop.go ?_
    obtain ⟨LED3, hLED3, -⟩ : ∃ l : List (Addr × Obj), l = _ ∧ News g L _ l := ⟨_, rfl, N5⟩
    obtain ⟨mm3, hmm3, -⟩ : ∃ m, m = _ ∧ Fr g L _ m := ⟨_, rfl, F⟩
    refine cutV (fun v s' => v = vO (hdO x (iLo p)) ∧ ∃ h'' tk'', s' = { s₀ with heap := h'', toks := tk'' } ∧ Fr g L h'' mm3 ∧ News g L h'' LED3) ?h1_3 ?h2_3
    case h1_3 =>
      cases hb : p.bl
      · have eo : vl = [] := by rw [← hvl]; simp [tl, iLo, hb]
        have eh : hdO x (iLo p) = none := by simp [hdO, iLo, hb]
        rw [eo] at N5 hLED3
        have go := IfGo.go
        k_steps
        with_reducible rename Fr _ _ _ _ => F9
        with_reducible rename News _ _ _ _ => N9
        exact ⟨by rw [eh]; rfl, _, _, rfl, by rw [hmm3]; exact F9, by rw [hLED3]; exact News.sub N9 (fun q hq => .tail _ hq)⟩
      · have eo : vl = [.ref (x.t 2)] := by rw [← hvl]; simp [tl, iLo, hb]
        have eh : hdO x (iLo p) = some (x.k 2) := by simp [hdO, iLo, hb]
        rw [eo] at N5 hLED3
        have go := IfGo.go
        k_steps
        with_reducible rename Fr _ _ _ _ => F9
        with_reducible rename News _ _ _ _ => N9
        exact ⟨by rw [eh]; rfl, _, _, rfl, by rw [hmm3]; exact F9, by rw [hLED3]; exact News.sub N9 (fun q hq => .tail _ hq)⟩
    case h2_3 =>
    clear F N5
    rintro v3 s' ⟨hv3, hh3, tt3, rfl, F, N5⟩
    subst hmm3
    subst hLED3
    k_steps
    refine Stop.go ?_
    obtain ⟨LED4, hLED4, -⟩ : ∃ l : List (Addr × Obj), l = _ ∧ News g L _ l := ⟨_, rfl, N5⟩
    obtain ⟨mm4, hmm4, -⟩ : ∃ m, m = _ ∧ Fr g L _ m := ⟨_, rfl, F⟩
    refine cutV (fun v s' => v = vO (hdO x (iWm p)) ∧ ∃ h'' tk'', s' = { s₀ with heap := h'', toks := tk'' } ∧ Fr g L h'' mm4 ∧ News g L h'' LED4) ?h1_4 ?h2_4
    case h1_4 =>
      cases hb : p.bw
      · have eo : vw = [] := by rw [← hvw]; simp [tl, iWm, hb]
        have eh : hdO x (iWm p) = none := by simp [hdO, iWm, hb]
        rw [eo] at N5 hLED4
        have go := IfGo.go
        k_steps
        with_reducible rename Fr _ _ _ _ => F9
        with_reducible rename News _ _ _ _ => N9
        exact ⟨by rw [eh]; rfl, _, _, rfl, by rw [hmm4]; exact F9, by rw [hLED4]; exact News.sub N9 (fun q hq => .tail _ hq)⟩
      · have eo : vw = [.ref (x.t 4)] := by rw [← hvw]; simp [tl, iWm, hb]
        have eh : hdO x (iWm p) = some (x.k 4) := by simp [hdO, iWm, hb]
        rw [eo] at N5 hLED4
        have go := IfGo.go
        k_steps
        with_reducible rename Fr _ _ _ _ => F9
        with_reducible rename News _ _ _ _ => N9
        exact ⟨by rw [eh]; rfl, _, _, rfl, by rw [hmm4]; exact F9, by rw [hLED4]; exact News.sub N9 (fun q hq => .tail _ hq)⟩
    case h2_4 =>
    clear F N5
    rintro v4 s' ⟨hv4, hh4, tt4, rfl, F, N5⟩
    subst hmm4
    subst hLED4
    k_steps
    subst hv1
    subst hv3
    subst hv4
    refine Stop.go (wpAny_call (actmaps_code (ov := hdO x (iOv p)) (lo := hdO x (iLo p)) (gl := hdO x (iWm p)) (va := kl x (iAp p)) (vm := kl x (iMin p)) (Rdy.le (Rd _ _ _ F News.nil) (by decide)) (N5.get (by k_mem)) (N5.get (by k_mem)) (N5.get (by k_mem)) ?hza ?hzm ?_))
    case hza => rw [show (kl x (iAp p)).length = (iAp p).length from List.length_map ..]; omega
    case hzm => rw [show (kl x (iMin p)).length = (iMin p).length from List.length_map ..]; exact Nat.le_trans (iMin_len p) (by decide)
    intro h9 tk9 ma ez vs9 kp9 hl9 hn9 hv9
    have ev : vs9 = kl x (iDu p) := by
      rw [hv9]
      cases h0 : p.bo <;> cases h1 : p.bl <;> cases h2 : p.bw <;> simp [kl, iDu, iOv, iLo, iWm, hdO, lO, h0, h1, h2]
    subst ev
    have N6 := Keep.add kp9 F N5 hl9 hn9
    have F6 := Keep.fr kp9 F
    clear N5 F hv9
    k_steps
    rename_i F9 N9
    subst hD
    refine CutF.mk ⟨{ p with ma := ma, ez := ez }, Sx.mk (n := n) (t := t) (e := e) (R := R) (nw := [(ma, PySem.W.listOf (kl x (iDu p)).toArray ez)]) (nd := []) F9 (News.sub N9 fun q hq => ?_) ⟨rfl, rfl, trivial⟩ off (fun q hq => ?_) hb (fun q hq => (List.mem_append.mp hq).elim (fun h => List.mem_append_right _ (ho q (List.mem_append_right _ h))) (fun h => List.mem_append_left _ h)) (by omega) (by omega)⟩
    · revert q
      exact subs_cons (.head _) (subs_cons (by k_mem) (fun q hq => by
        have : q ∈ own := by rw [← hO]; exact List.mem_append_right _ hq
        repeat (first | exact this | exact List.mem_append_right x.own this | refine List.Mem.tail _ ?_)))
    · rw [List.mem_singleton.mp hq]
      exact list_ne_deck N9 (.head _) (by k_mem) (refs_kl x _)
theorem base_tup (x : Fx) (L : Addr) {j : Nat} (hj : j < 5) : (x.t j, tupOf #[.ref (x.k j), .ref (x.o j)] (x.nt j)) ∈ x.base L := by
  unfold Fx.base
  match j, hj with
  | 0, _ => exact .tail _ (.tail _ (.tail _ (.head _)))
  | 1, _ => exact .tail _ (.tail _ (.tail _ (.tail _ (.head _))))
  | 2, _ => exact .tail _ (.tail _ (.tail _ (.tail _ (.tail _ (.head _)))))
  | 3, _ => exact .tail _ (.tail _ (.tail _ (.tail _ (.tail _ (.tail _ (.head _))))))
  | 4, _ => exact .tail _ (.tail _ (.tail _ (.tail _ (.tail _ (.tail _ (.tail _ (.head _)))))))
theorem if_lt {b : Bool} {a : List Nat} (h : ∀ j ∈ a, j < 5) : ∀ j ∈ (if b = true then a else []), j < 5 := by
  cases b
  · exact fun _ h => nomatch h
  · exact h
theorem if_len {b : Bool} {a : Nat} : (if b = true then [a] else []).length ≤ 1 := by
  cases b
  · exact Nat.zero_le _
  · exact Nat.le_refl _
theorem iMin_lt (p : Pm) : ∀ j ∈ iMin p, j < 5 := fa_app (if_lt (by decide)) (if_lt (by cases p.bg <;> decide))
theorem iDu_lt (p : Pm) : ∀ j ∈ iDu p, j < 5 := by
  have h1 : ∀ j ∈ iOv p ++ iWm p, j < 5 := fa_app (if_lt (by decide)) (if_lt (by decide))
  have h2 : ∀ j ∈ iAp p ++ iMin p ++ iLo p ++ iWm p, j < 5 := fa_app (fa_app (fa_app (if_lt (by decide)) (iMin_lt p)) (if_lt (by decide))) (if_lt (by decide))
  unfold iDu
  cases p.bo
  · exact h2
  · exact h1
theorem iDu_len (p : Pm) : (iDu p).length ≤ 5 := by
  have h0 : (iOv p).length ≤ 1 := if_len
  have h1 : (iWm p).length ≤ 1 := if_len
  have h2 : (iAp p).length ≤ 1 := if_len
  have h3 : (iLo p).length ≤ 1 := if_len
  have h4 := iMin_len p
  have a : (iOv p ++ iWm p).length ≤ 5 := by rw [List.length_append]; omega
  have b : (iAp p ++ iMin p ++ iLo p ++ iWm p).length ≤ 5 := by rw [List.length_append, List.length_append, List.length_append]; omega
  unfold iDu
  cases p.bo
  · exact b
  · exact a
noncomputable def Q14 (g : Heap) (L : Addr) (s₀ : Shared) (x : Fx) (s : Shared) : Prop := Q13 g L s₀ x s
theorem law_13 {w : World} {A : Around} {E : Value → Shared → Prop} {s₀ s : Shared} {Q : Flow → Shared → Prop} {g : Heap} {L fa : Addr} {cdv : Value} {mean : ExcName → Option Value} {mg mb : Str → Option Value} {rest : List Stmt} {scope : Scope} {x : Fx}
    (h1 : restAt PW 39 13 = some (rest, scope)) (hh : A.handled = none) (Rd : ∀ (h' : Heap) (m' : Str → Option Value) (nw : List (Addr × Obj)), Fr g L h' m' → News g L h' nw → Rdy w A 100 h' nw) (X : (KK w.params).In g) (T : Top VW LS mean mg mb g) (ok : x.Ok w L) (hs : Q13 g L s₀ x s)
    (next : ∀ {rest : List Stmt} {scope : Scope} (s' : Shared), restAt PW 39 14 = some (rest, scope) → Q14 g L s₀ x s' → wpAny (model RP w) A (execs rest (envOfC (PySem.Str.ofString "law") scope L fa cdv)) Q E s') :
    wpAny (model RP w) A (execs rest (envOfC (PySem.Str.ofString "law") scope L fa cdv)) Q E s := by
  refine' open_rest (g := fun p => restAt p 39 13) h1 ?h2 ?_
  case h2 => exact rfl
  obtain ⟨p, n, t, e, h', tk', m', R, rfl, F, ⟨e0, e1, -⟩, N, off, ho, hb, c1, c2⟩ := hs
  obtain ⟨ah, dp, ev, gd, un⟩ := A
  obtain rfl : ah = none := hh
  dsimp only at e0 e1
  rw [m_at e0, m_at e1] at F
  have need : ∀ q ∈ (oDu x p ++ oMa x p) ++ x.base L, q ∈ R := mem_split (fun q hq => ho q (by first | exact hq | (simp only [List.mem_append] at hq ⊢; simp [hq]; done) | (simp [hq]; done) | (simp only [List.mem_append] at hq ⊢; rcases hq with (hq | hq) | hq <;> simp [hq]; done) | (simp at hq))) hb
  have N5 := News.ahead N need
  have off5 := off_ahead off need
  clear off5
  have len1 : (kl x (iDu p)).length = (iDu p).length := List.length_map ..
  have len2 : (tl x (iDu p)).length = (iDu p).length := List.length_map ..
  have len3 := iDu_len p
  generalize hvk : kl x (iDu p) = vk at len1
  generalize hvt : tl x (iDu p) = vt at len2
  simp only [oDu, oMa, List.cons_append, List.nil_append, hvk, hvt] at N5
  generalize hO : x.base L ++ R = own at N5
  obtain ⟨deck, hD⟩ : ∃ a, a = x.deck := ⟨_, rfl⟩
  obtain ⟨a0, hA0⟩ : ∃ a, a = p.du := ⟨_, rfl⟩
  obtain ⟨a1, hA1⟩ : ∃ a, a = p.ma := ⟨_, rfl⟩
  (try rw [← hD] at F)
  (try rw [← hD] at N5)
  (try rw [← hA0] at F)
  (try rw [← hA0] at N5)
  (try rw [← hA1] at F)
  (try rw [← hA1] at N5)
  refine cut (Q14 g L s₀ x) ?st ?rest
  case rest => exact fun s' p => next s' (by exact rfl) p
  case st =>
    clear N next
    k_steps
    refine Stop.go ?_
    refine comp_T (cl := []) rfl ?hclos ?hcell ?hkind ?hnames ?hx ?hx2 ?hxx ?hs ?_
    case hclos => with_unfolding_all rfl
    case hcell => decide
    case hkind => exact rfl
    case hnames => decide
    case hx => exact rfl
    case hx2 => exact rfl
    case hxx => decide
    case hs => intro _; with_unfolding_all rfl
    k_steps
    refine Stop.go ?_
    refine zip_T (us := vk) (vs := vt) rfl (fun _ ys => ys = []) (N5.get (by k_mem)) (N5.get (by k_mem)) (by rw [sizeLine_eq]; omega) rfl ?turn ?done
    case turn =>
      intro Cc i u v ys h6 tk6 m6 E6 hu hv hj6 hn6 hm6 hm7 kp6
      rw [← hvk, kl, List.getElem?_map] at hu
      rw [← hvt, tl, List.getElem?_map] at hv
      obtain ⟨j, hj, rfl⟩ := Option.map_eq_some_iff.mp hu
      rw [hj] at hv
      obtain rfl : Value.ref (x.t j) = v := Option.some.inj hv
      have hj5 : j < 5 := iDu_lt p j (List.mem_of_getElem? hj)
      have mt : (x.t j, tupOf #[.ref (x.k j), .ref (x.o j)] (x.nt j)) ∈ own := by rw [← hO]; exact List.mem_append_left _ (base_tup x L hj5)
      have N6 : News g L h6 [(x.t j, tupOf #[.ref (x.k j), .ref (x.o j)] (x.nt j))] := Keep.news kp6 (News.only N5 (.tail _ (.tail _ (.tail _ mt))))
      have F6 := Keep.fr kp6 F
      have kt : Keep [] h6 h6 := Keep.refl _ _
      clear N5 F hu hv mt
      generalize x.t j = tj at N6 hm7
      generalize x.k j = kj at N6 hm6
      generalize x.o j = oj at N6
      k_unmd; try k_fold
      refine tests_one ?_
      k_steps
      exact TEnd.mk kt hj6
    case done =>
    intro Dz hhz tkz ys epz hDn hlz hjz kpz
    subst hjz
    have N6 := Keep.add kpz F N5 hlz hDn
    have F6 := Keep.fr kpz F
    clear N5 F hlz
    k_steps
    with_reducible rename News _ _ _ _ => N9
    refine len_list (items := vk.toArray) ⟨_, N9.get (by k_mem), rfl, _, rfl⟩ (by rw [List.size_toArray]; omega) ?_
    rw [show ((vk.toArray.size : Nat) : Int) = ((iDu p).length : Int) by rw [List.size_toArray, len1]]
    k_steps
    with_reducible rename News _ _ _ _ => N8
    refine len_list (items := vt.toArray) ⟨_, N8.get (by k_mem), rfl, _, rfl⟩ (by rw [List.size_toArray]; omega) ?_
    rw [show ((vt.toArray.size : Nat) : Int) = ((iDu p).length : Int) by rw [List.size_toArray, len2]]
    k_steps
    · rename (_ : Int) ≠ _ => hbad
      exact absurd rfl hbad
    · with_reducible rename Fr _ _ _ _ => F9
      subst hD
      refine CutF.mk ⟨p, Sx.mk (n := n) (t := t) (e := e) (R := R) (nw := []) (nd := []) F9 (News.sub N8 fun q hq => ?_) ⟨congrArg (fun a => some (Value.ref a)) hA0, congrArg (fun a => some (Value.ref a)) hA1, trivial⟩ off (fun q hq => nomatch hq) hb ho (by omega) (by omega)⟩
      simp only [List.nil_append, List.mem_cons] at hq
      rcases hq with hq | hq
      · simp only [List.mem_cons]; simp [hq]
      · have : q ∈ own := by rw [← hO]; exact List.mem_append_right _ hq
        simp only [List.mem_cons]; simp [this]
theorem refs_ol (x : Fx) (is : List Nat) : ∀ v ∈ ol x is, ∃ b, v = Value.ref b := fun v hv => by
  obtain ⟨i, _, rfl⟩ := List.mem_map.mp hv
  exact ⟨_, rfl⟩
noncomputable def Q15 (g : Heap) (L : Addr) (s₀ : Shared) (x : Fx) (s : Shared) : Prop := ∃ (p : Pm) (kx dkx ow eo : Nat) (hk : Int) (tk : Tok), Sx g L s₀ x 258 [(PySem.Str.ofString "keys", .ref kx), (PySem.Str.ofString "owns", .ref ow)] [(kx, instObj 234 dkx), (dkx, akDict hk tk p.ma), (p.ma, PySem.W.listOf (kl x (iDu p)).toArray p.ez), (ow, PySem.W.listOf (ol x (iDu p)).toArray eo)] s
theorem law_14 {w : World} {A : Around} {E : Value → Shared → Prop} {s₀ s : Shared} {Q : Flow → Shared → Prop} {g : Heap} {L fa : Addr} {cdv : Value} {mean : ExcName → Option Value} {mg mb : Str → Option Value} {rest : List Stmt} {scope : Scope} {x : Fx}
    (h1 : restAt PW 39 14 = some (rest, scope)) (hh : A.handled = none) (Rd : ∀ (h' : Heap) (m' : Str → Option Value) (nw : List (Addr × Obj)), Fr g L h' m' → News g L h' nw → Rdy w A 100 h' nw) (X : (KK w.params).In g) (T : Top VW LS mean mg mb g) (ok : x.Ok w L) (hs : Q14 g L s₀ x s)
    (next : ∀ {rest : List Stmt} {scope : Scope} (s' : Shared), restAt PW 39 15 = some (rest, scope) → Q15 g L s₀ x s' → wpAny (model RP w) A (execs rest (envOfC (PySem.Str.ofString "law") scope L fa cdv)) Q E s') :
    wpAny (model RP w) A (execs rest (envOfC (PySem.Str.ofString "law") scope L fa cdv)) Q E s := by
  refine' open_rest (g := fun p => restAt p 39 14) h1 ?h2 ?_
  case h2 => exact rfl
  obtain ⟨p, n, t, e, h', tk', m', R, rfl, F, ⟨e0, e1, -⟩, N, off, ho, hb, c1, c2⟩ := hs
  obtain ⟨ah, dp, ev, gd, un⟩ := A
  obtain rfl : ah = none := hh
  dsimp only at e0 e1
  rw [m_at e0, m_at e1] at F
  have need : ∀ q ∈ (oDu x p ++ oMa x p) ++ x.base L, q ∈ R := mem_split (fun q hq => ho q (by first | exact hq | (simp only [List.mem_append] at hq ⊢; simp [hq]; done) | (simp [hq]; done) | (simp only [List.mem_append] at hq ⊢; rcases hq with (hq | hq) | hq <;> simp [hq]; done) | (simp at hq))) hb
  have N5 := News.ahead N need
  have off5 := off_ahead off need
  clear off5
  have len2 : (tl x (iDu p)).length = (iDu p).length := List.length_map ..
  have len3 := iDu_len p
  generalize hvt : tl x (iDu p) = vt at len2
  simp only [oDu, oMa, List.cons_append, List.nil_append, hvt] at N5
  generalize hO : x.base L ++ R = own at N5
  obtain ⟨deck, hD⟩ : ∃ a, a = x.deck := ⟨_, rfl⟩
  obtain ⟨a0, hA0⟩ : ∃ a, a = p.du := ⟨_, rfl⟩
  obtain ⟨a1, hA1⟩ : ∃ a, a = p.ma := ⟨_, rfl⟩
  (try rw [← hD] at F)
  (try rw [← hD] at N5)
  (try rw [← hA0] at F)
  (try rw [← hA0] at N5)
  (try rw [← hA1] at F)
  (try rw [← hA1] at N5)
  refine cut (Q15 g L s₀ x) ?st ?rest
  case rest => exact fun s' p => next s' (by exact rfl) p
  case st =>
    clear N next
    k_steps
    refine Stop.go ?_
    refine comp_J (cl := []) ?hclos ?hcell ?hkind ?hnames ?hx ?hs ?_
    case hclos => with_unfolding_all rfl
    case hcell => decide
    case hkind => exact rfl
    case hnames => decide
    case hx => exact rfl
    case hs => intro _; with_unfolding_all rfl
    k_steps
    refine Stop.go ?_
    refine Blk.list rfl [] (fun i ys _ => ys = ol x ((iDu p).take i)) (N5.get (by k_mem)) (by rw [List.size_toArray, sizeLine_eq]; omega) (fun _ h => nomatch h) (fun h => nomatch h) (fun _ _ _ _ j _ => j) rfl ?turn ?done
    case turn =>
      intro i vx ys h6 tk6 m6 E6 hv6 hj6 hn6 hm6 kp6
      have hv : vt[i]? = some vx := by simpa using hv6
      rw [← hvt, tl, List.getElem?_map] at hv
      obtain ⟨j, hj, rfl⟩ := Option.map_eq_some_iff.mp hv
      have hj5 : j < 5 := iDu_lt p j (List.mem_of_getElem? hj)
      have mt : (x.t j, tupOf #[.ref (x.k j), .ref (x.o j)] (x.nt j)) ∈ own := by rw [← hO]; exact List.mem_append_left _ (base_tup x L hj5)
      have N6 : News g L h6 [(x.t j, tupOf #[.ref (x.k j), .ref (x.o j)] (x.nt j))] := Keep.news kp6 (News.only N5 (by simp only [List.mem_cons]; simp [mt]))
      have F6 := Keep.fr kp6 F5
      have kt : Keep [] h6 h6 := Keep.refl _ _
      have eq : ys ++ [Value.ref (x.o j)] = ol x ((iDu p).take (i + 1)) := by rw [hj6, ol, ol, List.take_add_one, hj]; simp
      clear N5 F5 hv hv6 mt
      generalize x.t j = tj at N6 hm6
      generalize x.k j = kj at N6
      generalize x.o j = oj at N6 eq
      k_unmd; try k_fold
      refine tests_none ?_
      k_steps
      exact TEnd.mk kt eq
    case done =>
    intro hhD tkD ys epD hlD hleD hjD kpD
    have hys : ys = ol x (iDu p) := by rw [hjD, List.size_toArray, len2, List.take_length]
    subst hys
    clear hjD
    have hDn : h5.get? (h5.objs.size + 1) = none := by
      cases q : h5.get? (h5.objs.size + 1) with
      | none => rfl
      | some o => exact absurd (nlt q) (by omega)
    have N6 := Keep.add kpD F5 N5 hlD hDn
    have F6 := Keep.fr kpD F5
    clear N5 F5 hlD hDn
    k_steps
    rename_i D _ lD _ _ _ F9 N9
    subst hD
    rw [hA1] at N9
    refine CutF.mk ⟨p, x5, dx5, h5.objs.size + 1, epD, hA5, tA5, Sx.mk (n := n) (t := t) (e := e) (R := R) (nw := [(x5, instObj 234 dx5), (dx5, akDict hA5 tA5 p.ma), (h5.objs.size + 1, PySem.W.listOf (ol x (iDu p)).toArray epD)]) (nd := []) F9 (News.sub N9 fun q hq => ?_) ⟨rfl, rfl, trivial⟩ off (fun q hq => ?_) hb (fun q hq => ?_) (by omega) (by omega)⟩
    · simp only [List.cons_append, List.nil_append, List.mem_cons, List.not_mem_nil, or_false] at hq
      rcases hq with hq | hq | hq | hq | hq
      · rw [hq]; exact .tail _ (.tail _ (.head _))
      · rw [hq]; exact .tail _ (.tail _ (.tail _ (.head _)))
      · rw [hq]; exact .tail _ (.head _)
      · rw [hq]; exact .tail _ (.tail _ (.tail _ (.tail _ (.head _))))
      · have : q ∈ own := by rw [← hO]; exact List.mem_append_right _ hq
        simp only [List.mem_cons]; simp [this]
    · simp only [List.mem_cons, List.not_mem_nil, or_false] at hq
      rcases hq with hq | hq | hq
      · rw [hq]; show @Ne Nat x5 x.deck; omega
      · rw [hq]; show @Ne Nat dx5 x.deck; omega
      · rw [hq]; exact list_ne_deck N9 (.tail _ (.head _)) (.tail _ (.tail _ (.tail _ (.tail _ (.head _))))) (refs_ol x _)
    · simp only [List.mem_cons, List.not_mem_nil, or_false] at hq
      rcases hq with hq | hq | hq | hq
      · rw [hq]; exact .head _
      · rw [hq]; exact .tail _ (.head _)
      · exact List.mem_append_right _ (ho q (by simp only [oDu, oMa, List.mem_append, List.mem_cons]; simp [hq]))
      · rw [hq]; exact .tail _ (.tail _ (.head _))
theorem dv_ne {w : World} {A : Around} {E : Value → Shared → Prop} {s : Shared} {Q : Value → Shared → Prop} {v v2 : Value} {d : Out} {h₀ : Heap} {L : Addr} {m : Str → Option Value} (hh : A.handled = none) (F : Fr h₀ L s.heap m) (h1 : DV v d) (h2 : DV v2 d) (h : Q (.bool false) s) :
    wpAny (model RP w) A (compareOp .NotEq v v2) Q E s := by
  obtain ⟨ah, dp, ev, gd, un⟩ := A
  obtain rfl : ah = none := hh
  cases d with
  | none =>
    cases v <;> first | exact h1.elim | skip
    cases v2 <;> first | exact h2.elim | skip
    k_steps
    exact h
  | pre =>
    cases v <;> first | exact h1.elim | skip
    cases v2 <;> first | exact h2.elim | skip
    obtain rfl := h1
    obtain rfl := h2
    k_steps
    exact h
  | cmd c =>
    cases v <;> first | exact h1.elim | skip
    cases v2 <;> first | exact h2.elim | skip
    obtain rfl := h1
    obtain rfl := h2
    k_steps
    rw [bne_self_eq_false]
    exact h
theorem base_own (x : Fx) (L : Addr) : ∀ q ∈ x.own, q ∈ x.base L := fun q hq => by
  unfold Fx.base
  repeat (first | exact hq | refine List.Mem.tail _ ?_)
theorem refs_is {α : Type} {RR : Heap → Addr → α → Prop} {h : Heap} {f : Nat → Addr} {c : Nat → α} : ∀ {is : List Nat}, (∀ i ∈ is, RR h (f i) (c i)) → Refs RR h (is.map fun i => .ref (f i)) (is.map c)
  | [], _ => trivial
  | i :: is, k => ⟨⟨_, rfl, k i (.head _)⟩, refs_is fun j hj => k j (.tail _ hj)⟩
theorem plain3 {i : Nat} (h : i < 3) : Plain (.inl (97 + (i : Int))) := fun j hj => by
  cases hj
  match i, h with
  | 0, _ => decide
  | 1, _ => decide
  | 2, _ => decide
theorem ky3 {i : Nat} {tt : Tok} : kyIs (.inl (97 + (i : Int))) (.int (97 + (i : Int)) tt) = true := by simp [kyIs, Value.isInt]
noncomputable def JL (led : List (Addr × Obj)) (nms : List (Str × Value)) (_ : Nat) (m : Str → Option Value) (news : List (Addr × Obj)) : Prop := news = led ∧ Nm nms m
theorem law_15 {w : World} {A : Around} {s₀ s : Shared} {Q : Flow → Shared → Prop} {g : Heap} {L fa : Addr} {cdv : Value} {mean : ExcName → Option Value} {mg mb : Str → Option Value} {rest : List Stmt} {scope : Scope} {x : Fx}
    (h1 : restAt PW 39 15 = some (rest, scope)) (hh : A.handled = none) (Rd : ∀ (h' : Heap) (m' : Str → Option Value) (nw : List (Addr × Obj)), Fr g L h' m' → News g L h' nw → Rdy w A 100 h' nw) (X : (KK w.params).In g) (T : Top VW LS mean mg mb g) (ok : x.Ok w L) (hs : Q15 g L s₀ x s)
    (next : ∀ {rest : List Stmt} {scope : Scope} (h' : Heap) (tk' : Nat) (m' : Str → Option Value), restAt PW 39 16 = some (rest, scope) → Fr g L h' m' → wpAny (model RP w) A (execs rest (envOfC (PySem.Str.ofString "law") scope L fa cdv)) Q (fun _ _ => False) { s₀ with heap := h', toks := tk' }) :
    wpAny (model RP w) A (execs rest (envOfC (PySem.Str.ofString "law") scope L fa cdv)) Q (fun _ _ => False) s := by
  refine' open_rest (g := fun p => restAt p 39 15) h1 ?h2 ?_
  case h2 => exact rfl
  obtain ⟨p, kx, dkx, ow, eo, hk, tk0, n, t, e, h', tk', m', R, rfl, F, ⟨e0, e1, -⟩, N, off, ho, hb, c1, c2⟩ := hs
  obtain ⟨ah, dp, ev, gd, un⟩ := A
  obtain rfl : ah = none := hh
  dsimp only at e0 e1
  rw [m_at e0, m_at e1] at F
  have len3 := iDu_len p
  have N5 : News g L h' ((kx, instObj 234 dkx) :: (dkx, akDict hk tk0 p.ma) :: (p.ma, PySem.W.listOf (kl x (iDu p)).toArray p.ez) :: (ow, PySem.W.listOf (ol x (iDu p)).toArray eo) :: x.own) := News.sub N (subs_tail (subs_cons (ho _ (.head _)) (subs_cons (ho _ (.tail _ (.head _))) (subs_cons (ho _ (.tail _ (.tail _ (.head _)))) (subs_cons (ho _ (.tail _ (.tail _ (.tail _ (.head _))))) fun q hq => hb q (base_own x L q hq))))))
  clear N off hb ho
  have lek : (kl x (iDu p)).length ≤ 5 := by rw [kl, List.length_map]; exact len3
  have leo : (ol x (iDu p)).length ≤ 5 := by rw [ol, List.length_map]; exact len3
  have T1 : ∀ h : Heap, (∀ q ∈ x.own, h.get? q.1 = some q.2) → Refs (KC w (KC w RE)) h (kl x (iDu p)) ((iDu p).map x.ch) ∧ Refs (OC w (OC w RE)) h (ol x (iDu p)) ((iDu p).map x.ch) := fun h hq => ⟨refs_is fun i hi => (ok.told i (iDu_lt p i hi) h hq).1, refs_is fun i hi => (ok.told i (iDu_lt p i hi) h hq).2⟩
  generalize kl x (iDu p) = vk at N5 lek T1
  generalize ol x (iDu p) = vo at N5 leo T1
  generalize (iDu p).map x.ch = chs at T1
  generalize p.ma = ma at N5
  generalize p.ez = ez at N5
  generalize x.own = own at N5 T1
  obtain ⟨g₀, hg1, hg2⟩ := ghost (own := (kx, instObj 234 dkx) :: (dkx, akDict hk tk0 ma) :: (ma, PySem.W.listOf vk.toArray ez) :: own) (h := h') (fun q hq => (N5 q (subs_cons (.head _) (subs_cons (.tail _ (.head _)) (subs_cons (.tail _ (.tail _ (.head _))) (subs_tail (subs_tail (subs_tail (subs_tail subs_refl)))))) q hq)).1)
  obtain ⟨RK, RO⟩ := T1 g₀ fun q hq => hg1 q (.tail _ (.tail _ (.tail _ hq)))
  have gk := hg1 _ (.head _)
  have gd' := hg1 _ (.tail _ (.head _))
  have gl := hg1 _ (.tail _ (.tail _ (.head _)))
  have zk : vk.toArray.size ≤ 100 := by rw [List.size_toArray]; omega
  have zo : vo.toArray.size ≤ 100 := by rw [List.size_toArray]; omega
  have kp0 : ∀ {h : Heap} {news : List (Addr × Obj)}, News g L h news → (∀ q ∈ (kx, instObj 234 dkx) :: (dkx, akDict hk tk0 ma) :: (ma, PySem.W.listOf vk.toArray ez) :: (ow, PySem.W.listOf vo.toArray eo) :: own, q ∈ news) → Keep [] g₀ h := fun N hs => ghost_keep hg2 fun q hq => (N q (hs q (subs_cons (.head _) (subs_cons (.tail _ (.head _)) (subs_cons (.tail _ (.tail _ (.head _))) (subs_tail (subs_tail (subs_tail (subs_tail subs_refl)))))) q hq))).1
  have kn0 : ∀ {a : Nat}, kx < a → dkx < a → ma < a → AllLt a own → g₀.get? a = none := fun h1 h2 h3 h4 => ghost_none hg2 fun q hq => by
    simp only [List.mem_cons] at hq
    rcases hq with hq | hq | hq | hq
    · rw [hq]; exact Nat.ne_of_lt h1
    · rw [hq]; exact Nat.ne_of_lt h2
    · rw [hq]; exact Nat.ne_of_lt h3
    · exact Nat.ne_of_lt (allLt_mem h4 q hq)
  refine cut (fun s' => ∃ h'' tk'' m'', s' = { s₀ with heap := h'', toks := tk'' } ∧ Fr g L h'' m'') ?st ?rest
  case rest =>
    rintro s' ⟨h'', tk'', m'', rfl, F⟩
    exact next h'' tk'' m'' (by exact rfl) F
  case st =>
    clear next T1 hg1 hg2
    k_steps
    refine For_invV g rfl rfl ?_ (by intro _; with_unfolding_all rfl)
    k_steps
    rename_i Dt ht F6 N6 l11
    refine Stop.go (loop_tup (JL ((kx, instObj 234 dkx) :: (dkx, akDict hk tk0 ma) :: (ma, PySem.W.listOf vk.toArray ez) :: (ow, PySem.W.listOf vo.toArray eo) :: own) [(PySem.Str.ofString "keys", .ref kx), (PySem.Str.ofString "owns", .ref ow)]) rfl F6 N6 (.head _) rfl rfl (news := (kx, instObj 234 dkx) :: (dkx, akDict hk tk0 ma) :: (ma, PySem.W.listOf vk.toArray ez) :: (ow, PySem.W.listOf vo.toArray eo) :: own) (fun q hq => .tail _ hq) ⟨rfl, rfl, rfl, trivial⟩ ?turn ?done)
    case done => exact fun m₁ news₁ h tk _ F _ => CutF.mk ⟨h, tk, m₁, rfl, F⟩
    case turn =>
      rintro i v m₁ news₁ h11 tk11 ⟨I, oI⟩ ot hv ⟨rfl, a0, a1, -⟩ hoff F7 N7
      dsimp only at a0 a1
      rw [m_at a0, m_at a1] at F7
      obtain ⟨tt, hi3, rfl⟩ := item3 hv
      clear F6 N6 hv
      k_unmd; try k_fold
      k_steps
      rename_i K1 hK1 FK NK lK1
      refine Stop.go (wpAny_call (active1_code (e := .inl (97 + (i : Int))) (Rdy.le (Rd _ _ _ FK (News.only NK (.head _))) (by decide)) (kp0 NK (by repeat (first | with_reducible exact subs_refl | refine subs_tail ?_))) (kn0 (by omega) (by omega) (by omega) lK1.2.2.2.2.2.2) gk gd' gl RK zk ky3 (plain3 hi3) ?_))
      intro hU tkU vU kpU hvU
      have NU := Keep.news kpU NK
      have FU := Keep.fr kpU FK
      clear NK FK kpU
      k_steps
      rename_i K2 hK2 FK NK lK2
      refine Stop.go (wpAny_call (law_due1_code (e := .inl (97 + (i : Int))) (Rdy.le (Rd _ _ _ FK (News.only NK (.head _))) (by decide)) (kp0 NK (by repeat (first | with_reducible exact subs_refl | refine subs_tail ?_))) (kn0 (by omega) (by omega) (by omega) lK2.2.2.2.2.2.2.2) (NK.get (by k_mem)) RO zo ky3 ?_))
      intro hW tkW vW kpW hvW
      have NW := Keep.news kpW NK
      have FW := Keep.fr kpW FK
      clear NK FK kpW
      k_steps
      refine dv_ne (by rfl) FW hvU hvW ?_
      k_steps
      clear lK1 lK2 hvU hvW
      refine Stop.go (For_invV g rfl rfl ?_ (by intro _; with_unfolding_all rfl))
      k_steps
      rename_i D2 ht2 F6 N6 l12
      refine Stop.go (loop_tup (JL ((I, oI) :: (Dt, ot) :: (kx, instObj 234 dkx) :: (dkx, akDict hk tk0 ma) :: (ma, PySem.W.listOf vk.toArray ez) :: (ow, PySem.W.listOf vo.toArray eo) :: own) [(PySem.Str.ofString "first", .int (97 + (i : Int)) tt), (PySem.Str.ofString "keys", .ref kx), (PySem.Str.ofString "owns", .ref ow)]) rfl F6 N6 (.head _) rfl rfl (news := (I, oI) :: (Dt, ot) :: (kx, instObj 234 dkx) :: (dkx, akDict hk tk0 ma) :: (ma, PySem.W.listOf vk.toArray ez) :: (ow, PySem.W.listOf vo.toArray eo) :: own) ?sub ⟨rfl, rfl, rfl, rfl, trivial⟩ ?turn2 ?done2)
      case sub =>
        refine subs_cons (by k_mem) (subs_cons (by k_mem) ?_)
        repeat (first | with_reducible exact subs_refl | refine subs_tail ?_)
      case done2 =>
        rintro m2 news2 h tk ⟨rfl, b0, b1, b2, -⟩ F N
        clear F6 N6
        k_steps
        with_reducible rename Fr _ _ _ _ => F9
        with_reducible rename News _ _ _ _ => N9
        exact TupEnd.mk (J := JL ((kx, instObj 234 dkx) :: (dkx, akDict hk tk0 ma) :: (ma, PySem.W.listOf vk.toArray ez) :: (ow, PySem.W.listOf vo.toArray eo) :: own) [(PySem.Str.ofString "keys", .ref kx), (PySem.Str.ofString "owns", .ref ow)] (i + 1)) (its := [(I, oI), (Dt, ot)]) (news' := (kx, instObj 234 dkx) :: (dkx, akDict hk tk0 ma) :: (ma, PySem.W.listOf vk.toArray ez) :: (ow, PySem.W.listOf vo.toArray eo) :: own) F9 N9 (fun q hq => hq) hoff ⟨rfl, b1, b2, trivial⟩
      case turn2 =>
        rintro j v m2 news2 h12 tk12 ⟨J, oJ⟩ ot2 hv ⟨rfl, b0, b1, b2, -⟩ hoff2 F8 N8
        dsimp only at b0 b1 b2
        rw [m_at b0, m_at b1, m_at b2] at F8
        obtain ⟨tt2, hj3, rfl⟩ := item3 hv
        clear F6 N6 hv
        k_unmd; try k_fold
        k_steps
        rename_i K1 hK1 FK NK lK1
        refine Stop.go (wpAny_call (active2_code (e := .inl (97 + (i : Int))) (e2 := .inl (97 + (j : Int))) (Rdy.le (Rd _ _ _ FK (News.only NK (.head _))) (by decide)) (kp0 NK (by repeat (first | with_reducible exact subs_refl | refine subs_tail ?_))) (kn0 (by omega) (by omega) (by omega) lK1.2.2.2.2.2.2.2.2) gk gd' gl RK zk ky3 (plain3 hi3) ky3 (plain3 hj3) ?_))
        intro hU tkU vU kpU hvU
        have NU := Keep.news kpU NK
        have FU := Keep.fr kpU FK
        clear NK FK kpU
        k_steps
        rename_i K2 hK2 FK NK lK2
        refine Stop.go (wpAny_call (law_due2_code (e := .inl (97 + (i : Int))) (e2 := .inl (97 + (j : Int))) (Rdy.le (Rd _ _ _ FK (News.only NK (.head _))) (by decide)) (kp0 NK (by repeat (first | with_reducible exact subs_refl | refine subs_tail ?_))) (kn0 (by omega) (by omega) (by omega) lK2.2.2.2.2.2.2.2.2.2) (NK.get (by k_mem)) RO zo ky3 ky3 ?_))
        intro hW tkW vW kpW hvW
        have NW := Keep.news kpW NK
        have FW := Keep.fr kpW FK
        clear NK FK kpW
        k_steps
        refine dv_ne (by rfl) FW hvU hvW ?_
        k_steps
        exact TupEnd.mk (J := JL ((I, oI) :: (Dt, ot) :: (kx, instObj 234 dkx) :: (dkx, akDict hk tk0 ma) :: (ma, PySem.W.listOf vk.toArray ez) :: (ow, PySem.W.listOf vo.toArray eo) :: own) [(PySem.Str.ofString "first", .int (97 + (i : Int)) tt), (PySem.Str.ofString "keys", .ref kx), (PySem.Str.ofString "owns", .ref ow)] (j + 1)) (its := [(J, oJ), (D2, ot2)]) (news' := (I, oI) :: (Dt, ot) :: (kx, instObj 234 dkx) :: (dkx, akDict hk tk0 ma) :: (ma, PySem.W.listOf vk.toArray ez) :: (ow, PySem.W.listOf vo.toArray eo) :: own) FW NW (fun q hq => .tail _ (.tail _ hq)) hoff2 ⟨rfl, rfl, rfl, rfl, trivial⟩
theorem law_16 {w : World} {A : Around} {E : Value → Shared → Prop} {s : Shared} {Q : Flow → Shared → Prop} {g : Heap} {L fa : Addr} {cdv : Value} {m : Str → Option Value} {rest : List Stmt} {scope : Scope}
    (h1 : restAt PW 39 16 = some (rest, scope)) (hh : A.handled = none) (F : Fr g L s.heap m) (h : Q (.ret (.bool true)) s) :
    wpAny (model RP w) A (execs rest (envOfC (PySem.Str.ofString "law") scope L fa cdv)) Q E s := by
  refine' open_rest (g := fun p => restAt p 39 16) h1 ?h2 ?_
  case h2 => exact rfl
  obtain ⟨ah, dp, ev, gd, un⟩ := A
  obtain rfl : ah = none := hh
  k_steps
  exact h
theorem law_all {w : World} {A : Around} {s : Shared} {Q : Flow → Shared → Prop} {g : Heap} {L fa sc : Addr} {cdv : Value} {mean : ExcName → Option Value} {mg mb : Str → Option Value} {rest : List Stmt} {scope : Scope} {vs : List Value} {ns : List Int} {oc : Obj} {m : Str → Option Value}
    (h1 : restAt PW 39 0 = some (rest, scope)) (hh : A.handled = none) (Rd : ∀ (h' : Heap) (m' : Str → Option Value) (nw : List (Addr × Obj)), Fr g L h' m' → News g L h' nw → Rdy w A 100 h' nw)
    (F : Fr g L s.heap m) (N : News g L s.heap [(L + 1, oc)]) (hc : oc.data = .cell none) (hm : m (PySem.Str.ofString "script") = some (.ref sc)) (hsc : g.IsList sc vs.toArray) (hi : IntsAre vs ns) (hlen : ns.length ≤ 63) (X : (KK w.params).In g) (T : Top VW LS mean mg mb g)
    (fin : ∀ (h' : Heap) (tk' : Nat) (m' : Str → Option Value), Fr g L h' m' → Q (.ret (.bool true)) { s with heap := h', toks := tk' }) :
    wpAny (model RP w) A (execs rest (envOfC (PySem.Str.ofString "law") scope L fa cdv)) Q (fun _ _ => False) s := by
  refine law_a h1 hh Rd F N hc hm hsc hi hlen X T ?_
  intro rest scope deck l0 pl e e0 ep n t vs0 ns0 cs oc2 h' tk' m' h2 F2 hm2 N2 hne hc2 hi0 hlen0 l0ne a1 a3 a6 hn0 hn1
  refine law_b h2 hh Rd F2 hm2 N2 hne hc2 hi0 hlen0 l0ne a1 a3 a6 hn0 hn1 X T ?_
  rintro rest scope s' h3 ⟨x, n, t, e, h', tk', m', rfl, ok, F3, hp, N3, c1, c2⟩
  have q3 : Q3 g L s x { s with heap := h', toks := tk' } := ⟨Pm.zero, n, t, e, h', tk', m', x.base L, rfl, F3, ⟨hp, trivial⟩, N3, ok.off, (fun _ h => nomatch h), (fun _ h => h), c1, c2⟩
  refine law_3 h3 hh Rd X T ok q3 ?_
  clear h3 q3
  intro rest scope s4 h4 q4
  refine law_4 h4 hh Rd X T ok q4 ?_
  clear h4 q4
  intro rest scope s5 h5 q5
  refine law_5 h5 hh Rd X T ok q5 ?_
  clear h5 q5
  intro rest scope s6 h6 q6
  refine law_6 h6 hh Rd X T ok q6 ?_
  clear h6 q6
  intro rest scope s7 h7 q7
  refine law_7 h7 hh Rd X T ok q7 ?_
  clear h7 q7
  intro rest scope s8 h8 q8
  refine law_8 h8 hh Rd X T ok q8 ?_
  clear h8 q8
  intro rest scope s9 h9 q9
  refine law_9 h9 hh Rd X T ok q9 ?_
  clear h9 q9
  intro rest scope s10 h10 q10
  refine law_10 h10 hh Rd X T ok q10 ?_
  clear h10 q10
  intro rest scope s11 h11 q11
  refine law_11 h11 hh Rd X T ok q11 ?_
  clear h11 q11
  intro rest scope s12 h12 q12
  refine law_12 h12 hh Rd X T ok q12 ?_
  clear h12 q12
  intro rest scope s13 h13 q13
  refine law_13 h13 hh Rd X T ok q13 ?_
  clear h13 q13
  intro rest scope s14 h14 q14
  refine law_14 h14 hh Rd X T ok q14 ?_
  clear h14 q14
  intro rest scope s15 h15 q15
  refine law_15 h15 hh Rd X T ok q15 ?_
  intro rest scope h' tk' m' h16 F16
  exact law_16 h16 hh F16 (fin h' tk' m' F16)
theorem kk_in {w : World} {s : Shared} (y : X.obsZ AS s = X.valZ KK 284 580 w) : (KK w.params).In s.heap := by
  exact (X.z_facts (K := KK) (as := AS) (fun _ => rfl) y).2.1
theorem top_holds : PySem.Challenge.rw_ok0053_01.Holds := by
  w_on
  refine holds_law well fun said => ?_
  refine holds_openX (q := VW) (loose := LO) (Xt := fun s => xlAt VW LV s && recOk (RowW.records PySem.Challenge.rw_ok0053_01.row.toRowW) s) (XP := XL VW LV) (Yf := X.obsZ AS) (Ya := X.valZ KK 284 580) (N := 3626) leftO (fun s e => xl_of s (Bool.and_eq_true_iff.mp e).1) XL.keeps (by rfl) (by rfl) (by rfl) (fun s e => recFacts_of (Bool.and_eq_true_iff.mp e).2) (by first | rfl | fail "no head") (by first | assumption | decide +kernel) okTop ⟨rfl, rfl, rfl, rfl, rfl, by decide +kernel⟩ ?hw ?hc
  case hw => w_witness2
  case hc =>
    intro w s₀ s₁ mg mb G Y fa o pm cd doc dV kV ho hd hcd hD hmg hg args vals as hL hpre hlay hrd hwl hlo
    have KX := kk_in Y
    k_behind G ho hd hcd hD hmg hpre hlay hrd hwl hlo cd
    with_reducible rename Fr _ _ _ _ => F0
    with_reducible rename News _ _ _ _ => N0
    with_reducible rename Top _ _ _ _ _ _ => HT
    with_reducible rename IntsAre _ _ => HI
    with_reducible rename Heap.IsList _ _ _ => HL
    with_reducible rename Below _ _ _ _ => HB
    with_reducible rename ¬ _ < _ => HN
    with_reducible rename Obj.data _ = Data.cell _ => HC
    have KX1 := KX.keeps hL.keeps
    have HN1 := Int.not_lt.mp HN
    refine wpAny_mono (Q := fun fl s' => fl = .ret (.bool true) ∧ ∃ h' tk' m', s' = { s₁ with heap := h', toks := tk' } ∧ Fr s₁.heap s₁.heap.objs.size h' m') (law_all (by exact rfl) (by exact rfl) (fun h' m' nw F' N' => Rdy.mk _ _ _ _ [] callerA s₁.heap s₁.heap s₁.heap.objs.size m' _ mg mb (by exact rfl) HB F' KX1 HT (by exact rfl) (by exact rfl) N' (by decide) (by decide)) F0 N0 HC (by exact rfl) HL HI (by omega) KX1 HT ?fin) ?m1 (fun _ _ e => e.elim)
    case fin => exact fun h' tk' m' F => ⟨rfl, h', tk', m', rfl, F⟩
    case m1 =>
      rintro fl s' ⟨rfl, h', tk', m', rfl, F⟩
      clear F0 N0
      try dsimp only
      wrow_close
end Mine
set_option maxRecDepth 100000 in
set_option maxHeartbeats 8000000 in
theorem PySem.Challenge.cw_ok0053_01_holds : PySem.Challenge.rw_ok0053_01.Holds := by
  exact Mine.top_holds
