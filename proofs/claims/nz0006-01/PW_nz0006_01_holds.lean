import PyProof.Rows.All
import Wide.All
import OpenK.AllK
import Wide.FinOn
import Lean
import PySem.Challenge.RW_nz0006_01
open PySem PySem.W PySem.Calls PyProof.Rows
set_option Elab.async false
set_option maxRecDepth 100000
set_option compiler.extract_closed false
namespace Mine
section
section
set_option maxHeartbeats 8000000
set_option linter.unusedVariables false
noncomputable def pg : Program := Challenge.rw_nz0006_01.row.prog
noncomputable def stA (i : Nat) : Stmt := (pg.main.body[i]?).getD (.Pass ⟨0, 0, 0, 0⟩)
noncomputable def subA (s : Stmt) (j : Nat) : Stmt := match s with
  | .ClassDef _ _ _ b _ _ _ _ _ _ _ => (b[j]?).getD (.Pass ⟨0, 0, 0, 0⟩)
  | s => s
noncomputable def fA (s : Stmt) : Arguments := match s with
  | .FunctionDef _ a _ _ _ _ _ _ _ _ => a
  | _ => ⟨[], [], none, [], [], none, []⟩
noncomputable def fB (s : Stmt) : List Stmt := match s with
  | .FunctionDef _ _ b _ _ _ _ _ _ _ => b
  | _ => []
noncomputable def fS (s : Stmt) : Scope := match s with
  | .FunctionDef _ _ _ _ _ _ s _ _ _ => s
  | _ => pg.main.scope
noncomputable def lf : Life := Life.mk [] [] [] 0 [] [] false #[] [] 0 false false false 0 [2000, 10, 10] false 0 true [] [] 0 false
noncomputable def dr : Drawn := Drawn.mk 0 0 0 0
noncomputable def hd.o_43 : Params → Obj := fun P => Obj.mk (Value.type "tuple") none (Data.seq #[]) #[]
noncomputable def hd.o_44 : Params → Obj := fun P => Obj.mk Value.none none (Data.fields #[]) #[]
noncomputable def hd.o_45 : Params → Obj := fun P => Obj.mk (Value.type "code") none (Data.fields #[Value.str (Str.ofString "<module>") 182, Value.str (Str.ofString "<module>") 183, Value.str (Str.ofString "/claim/cut.py") 184, Value.int 1 0, Value.int 0 0, Value.int 0 0, Value.int 0 0, Value.int 0 0, Value.ref 11, Value.bool false, Value.int 181 0, Value.ref 12, Value.none, Value.none, Value.none, Value.none, Value.int 185 0, Value.int 1 0, Value.str (Str.ofString "/claim/cut.py") 186]) #[]
noncomputable def hd.o_46 : Params → Obj := fun P => Obj.mk (Value.type "frame") none Data.plain #[some (Value.ref 13), some (Value.ref 3), some (Value.ref 3), none, some (Value.str (Str.ofString "__main__") 164), none, some (Value.ref 0)]
noncomputable def hd.o_49 : Params → Obj := fun P => Obj.mk Value.none none (Data.dict #[DictEntry.mk (PyData.keyHash P (Str.ofString "type.__subclasses__.Exception.0")) (Value.str (Str.ofString "type.__subclasses__.Exception.0") 223) (Value.int 40 0), DictEntry.mk (PyData.keyHash P (Str.ofString "type.__subclasses__.Exception.n")) (Value.str (Str.ofString "type.__subclasses__.Exception.n") 224) (Value.int 1 0)] 2) #[]
noncomputable def hd.o_50 : Params → Obj := fun P => Obj.mk (Value.type "dict") none (Data.dict #[DictEntry.mk (PyData.keyHash P (Str.ofString "__name__")) (Value.str (Str.ofString "__name__") 165) (Value.str (Str.ofString "fdsolve.errors") 187), DictEntry.mk (PyData.keyHash P (Str.ofString "__doc__")) (Value.str (Str.ofString "__doc__") 166) Value.none, DictEntry.mk (PyData.keyHash P (Str.ofString "__package__")) (Value.str (Str.ofString "__package__") 167) Value.none, DictEntry.mk (PyData.keyHash P (Str.ofString "__loader__")) (Value.str (Str.ofString "__loader__") 168) (Value.builtin "__main__.__loader__#opaque"), DictEntry.mk (PyData.keyHash P (Str.ofString "__spec__")) (Value.str (Str.ofString "__spec__") 169) Value.none, DictEntry.mk (PyData.keyHash P (Str.ofString "__annotations__")) (Value.str (Str.ofString "__annotations__") 170) (Value.ref 6), DictEntry.mk (PyData.keyHash P (Str.ofString "__builtins__")) (Value.str (Str.ofString "__builtins__") 171) (Value.ref 4), DictEntry.mk (PyData.keyHash P (Str.ofString "__file__")) (Value.str (Str.ofString "__file__") 173) (Value.str (Str.ofString "/claim/cut.py") 172), DictEntry.mk (PyData.keyHash P (Str.ofString "__cached__")) (Value.str (Str.ofString "__cached__") 174) Value.none, DictEntry.mk (PyData.keyHash P (Str.ofString "FdError")) (Value.str (Str.ofString "FdError") 226) (Value.ref 40)] 10) #[]
noncomputable def hd.o_51 : Params → Obj := fun P => Obj.mk Value.none none (Data.fields #[Value.int 2 0, Value.int 0 0, Value.ref 21]) #[]
noncomputable def hd.o_52 : Params → Obj := fun P => Obj.mk (Value.type "tuple") none (Data.seq #[Value.type "Exception"]) #[]
noncomputable def hd.o_53 : Params → Obj := fun P => Obj.mk (Value.type "builtin_function_or_method") none (Data.fields #[Value.builtin "type.__prepare__", Value.type "type"]) #[]
noncomputable def hd.o_54 : Params → Obj := fun P => Obj.mk (Value.type "dict") none (Data.dict #[DictEntry.mk (PyData.keyHash P (Str.ofString "__module__")) (Value.str (Str.ofString "__module__") 196) (Value.str (Str.ofString "fdsolve.errors") 187), DictEntry.mk (PyData.keyHash P (Str.ofString "__qualname__")) (Value.str (Str.ofString "__qualname__") 198) (Value.str (Str.ofString "FdError") 197), DictEntry.mk (PyData.keyHash P (Str.ofString "__firstlineno__")) (Value.str (Str.ofString "__firstlineno__") 200) (Value.int 2 199), DictEntry.mk (PyData.keyHash P (Str.ofString "__init__")) (Value.str (Str.ofString "__init__") 209) (Value.ref 30), DictEntry.mk (PyData.keyHash P (Str.ofString "told")) (Value.str (Str.ofString "told") 216) (Value.ref 37), DictEntry.mk (PyData.keyHash P (Str.ofString "__static_attributes__")) (Value.str (Str.ofString "__static_attributes__") 218) (Value.ref 38), DictEntry.mk (PyData.keyHash P (Str.ofString "__classcell__")) (Value.str (Str.ofString "__classcell__") 219) (Value.ref 18)] 7) #[]
noncomputable def hd.o_55 : Params → Obj := fun P => Obj.mk (Value.type "cell") none (Data.cell (some (Value.ref 40))) #[]
noncomputable def hd.o_56 : Params → Obj := fun P => Obj.mk (Value.type "tuple") none (Data.seq #[]) #[]
noncomputable def hd.o_57 : Params → Obj := fun P => Obj.mk Value.none none (Data.fields #[Value.int 4 0, Value.int 4 0, Value.ref 29, Value.int 8 0, Value.int 4 0, Value.ref 36]) #[]
noncomputable def hd.o_58 : Params → Obj := fun P => Obj.mk (Value.type "code") none (Data.fields #[Value.str (Str.ofString "FdError") 191, Value.str (Str.ofString "FdError") 192, Value.str (Str.ofString "/claim/cut.py") 193, Value.int 2 0, Value.int 0 0, Value.int 0 0, Value.int 0 0, Value.int 0 0, Value.ref 19, Value.bool false, Value.int 181 0, Value.ref 20, Value.none, Value.none, Value.none, Value.none, Value.int 194 0, Value.int 2 0, Value.str (Str.ofString "/claim/cut.py") 195]) #[]
noncomputable def hd.o_59 : Params → Obj := fun P => Obj.mk (Value.type "frame") none Data.plain #[some (Value.ref 21), some (Value.ref 3), some (Value.ref 17), none, some (Value.str (Str.ofString "fdsolve.errors") 187), none, some (Value.ref 0)]
noncomputable def hd.o_60 : Params → Obj := fun P => Obj.mk (Value.type "tuple") none (Data.seq #[Value.ref 18]) #[]
noncomputable def hd.o_61 : Params → Obj := fun P => Obj.mk (Value.type "tuple") none (Data.seq #[Value.str (Str.ofString "__class__") 204]) #[]
noncomputable def hd.o_62 : Params → Obj := fun P => Obj.mk Value.none none (Data.fields #[]) #[]
noncomputable def hd.o_63 : Params → Obj := fun P => Obj.mk (Value.type "tuple") none (Data.seq #[Value.str (Str.ofString "self") 205, Value.str (Str.ofString "what") 206]) #[]
noncomputable def hd.o_64 : Params → Obj := fun P => Obj.mk (Value.type "tuple") none (Data.seq #[]) #[]
noncomputable def hd.o_65 : Params → Obj := fun P => Obj.mk Value.none none (Data.func (FuncData.mk (Str.ofString "__init__") (Str.ofString "FdError.__init__") (fA (subA (stA 1) 0)) (FuncBody.stmts (fB (subA (stA 1) 0))) (fS (subA (stA 1) 0)) 0 [] Value.none Value.none Value.none Value.none none Value.none Value.none 0)) #[]
noncomputable def hd.o_66 : Params → Obj := fun P => Obj.mk (Value.type "code") none (Data.fields #[Value.str (Str.ofString "__init__") 201, Value.str (Str.ofString "FdError.__init__") 202, Value.str (Str.ofString "/claim/cut.py") 203, Value.int 4 0, Value.int 2 0, Value.int 0 0, Value.int 0 0, Value.int 3 0, Value.ref 24, Value.bool true, Value.int 181 0, Value.ref 25, Value.none, Value.ref 26, Value.ref 27, Value.ref 28, Value.int 207 0, Value.int 4 0, Value.str (Str.ofString "/claim/cut.py") 208]) #[]
noncomputable def hd.o_67 : Params → Obj := fun P => Obj.mk (Value.type "function") none (Data.func (FuncData.mk (Str.ofString "__init__") (Str.ofString "FdError.__init__") (fA (subA (stA 1) 0)) (FuncBody.stmts (fB (subA (stA 1) 0))) (fS (subA (stA 1) 0)) 3 [(Str.ofString "__class__", 18)] Value.none Value.none Value.none (Value.str (Str.ofString "fdsolve.errors") 187) none (Value.ref 29) (Value.ref 23) 0)) #[]
noncomputable def hd.o_68 : Params → Obj := fun P => Obj.mk (Value.type "tuple") none (Data.seq #[]) #[]
noncomputable def hd.o_69 : Params → Obj := fun P => Obj.mk Value.none none (Data.fields #[]) #[]
noncomputable def hd.o_70 : Params → Obj := fun P => Obj.mk (Value.type "tuple") none (Data.seq #[Value.str (Str.ofString "self") 213]) #[]
noncomputable def hd.o_71 : Params → Obj := fun P => Obj.mk (Value.type "tuple") none (Data.seq #[]) #[]
noncomputable def hd.o_72 : Params → Obj := fun P => Obj.mk Value.none none (Data.func (FuncData.mk (Str.ofString "told") (Str.ofString "FdError.told") (fA (subA (stA 1) 1)) (FuncBody.stmts (fB (subA (stA 1) 1))) (fS (subA (stA 1) 1)) 0 [] Value.none Value.none Value.none Value.none none Value.none Value.none 0)) #[]
noncomputable def hd.o_73 : Params → Obj := fun P => Obj.mk (Value.type "code") none (Data.fields #[Value.str (Str.ofString "told") 210, Value.str (Str.ofString "FdError.told") 211, Value.str (Str.ofString "/claim/cut.py") 212, Value.int 8 0, Value.int 1 0, Value.int 0 0, Value.int 0 0, Value.int 3 0, Value.ref 31, Value.bool true, Value.int 181 0, Value.ref 32, Value.none, Value.ref 33, Value.ref 34, Value.ref 35, Value.int 214 0, Value.int 8 0, Value.str (Str.ofString "/claim/cut.py") 215]) #[]
noncomputable def hd.o_74 : Params → Obj := fun P => Obj.mk (Value.type "function") none (Data.func (FuncData.mk (Str.ofString "told") (Str.ofString "FdError.told") (fA (subA (stA 1) 1)) (FuncBody.stmts (fB (subA (stA 1) 1))) (fS (subA (stA 1) 1)) 3 [] Value.none Value.none Value.none (Value.str (Str.ofString "fdsolve.errors") 187) none (Value.ref 36) Value.none 0)) #[]
noncomputable def hd.o_75 : Params → Obj := fun P => Obj.mk (Value.type "tuple") none (Data.seq #[Value.str (Str.ofString "what") 217]) #[]
noncomputable def hd.o_76 : Params → Obj := fun P => Obj.mk (Value.type "dict") none (Data.dict #[DictEntry.mk (PyData.keyHash P (Str.ofString "__module__")) (Value.str (Str.ofString "__module__") 196) (Value.str (Str.ofString "fdsolve.errors") 187), DictEntry.mk (PyData.keyHash P (Str.ofString "__firstlineno__")) (Value.str (Str.ofString "__firstlineno__") 200) (Value.int 2 199), DictEntry.mk (PyData.keyHash P (Str.ofString "__init__")) (Value.str (Str.ofString "__init__") 209) (Value.ref 30), DictEntry.mk (PyData.keyHash P (Str.ofString "told")) (Value.str (Str.ofString "told") 216) (Value.ref 37), DictEntry.mk (PyData.keyHash P (Str.ofString "__static_attributes__")) (Value.str (Str.ofString "__static_attributes__") 218) (Value.ref 38), DictEntry.mk (PyData.keyHash P (Str.ofString "__weakref__")) (Value.str (Str.ofString "__weakref__") 221) (Value.ref 41), DictEntry.mk (PyData.keyHash P (Str.ofString "__doc__")) (Value.str (Str.ofString "__doc__") 222) Value.none] 4) #[]
noncomputable def hd.o_77 : Params → Obj := fun P => Obj.mk (Value.type "type") none (Data.cls (ClassData.mk (Str.ofString "FdError") [Value.type "Exception"] [Value.ref 40, Value.type "Exception", Value.type "BaseException", Value.type "object"] 39 (Str.ofString "FdError") true [] [] false none false)) #[some (Value.ref 15), none, some (Value.str (Str.ofString "FdError") 189), some (Value.str (Str.ofString "FdError") 197), some (Value.builtin "Exception.__new__"), some (Value.bool true)]
noncomputable def hd.o_78 : Params → Obj := fun P => Obj.mk (Value.type "getset_descriptor") none (Data.fields #[Value.str (Str.ofString "__weakref__") 220, Value.ref 40, Value.builtin "ExceptionGroup.__weakref__", Value.none]) #[]
noncomputable def hd.o_79 : Params → Obj := fun P => Obj.mk (Value.type "super") none (Data.fields #[Value.ref 40, Value.ref 40, Value.ref 40]) #[]
noncomputable def hd.o_80 : Params → Obj := fun P => Obj.mk (Value.type "builtin_function_or_method") none (Data.fields #[Value.builtin "object.__init_subclass__", Value.ref 40]) #[]
noncomputable def hd.o_81 : Params → Obj := fun P => Obj.mk (Value.type "dict") none (Data.dict #[DictEntry.mk (PyData.keyHash P (Str.ofString "__name__")) (Value.str (Str.ofString "__name__") 165) (Value.str (Str.ofString "fdsolve.errors") 187), DictEntry.mk (PyData.keyHash P (Str.ofString "__doc__")) (Value.str (Str.ofString "__doc__") 166) Value.none, DictEntry.mk (PyData.keyHash P (Str.ofString "__package__")) (Value.str (Str.ofString "__package__") 167) Value.none, DictEntry.mk (PyData.keyHash P (Str.ofString "__loader__")) (Value.str (Str.ofString "__loader__") 168) (Value.builtin "__main__.__loader__#opaque"), DictEntry.mk (PyData.keyHash P (Str.ofString "__spec__")) (Value.str (Str.ofString "__spec__") 169) Value.none, DictEntry.mk (PyData.keyHash P (Str.ofString "__annotations__")) (Value.str (Str.ofString "__annotations__") 170) (Value.ref 6), DictEntry.mk (PyData.keyHash P (Str.ofString "__builtins__")) (Value.str (Str.ofString "__builtins__") 171) (Value.ref 4), DictEntry.mk (PyData.keyHash P (Str.ofString "__file__")) (Value.str (Str.ofString "__file__") 173) (Value.str (Str.ofString "/claim/cut.py") 172), DictEntry.mk (PyData.keyHash P (Str.ofString "__cached__")) (Value.str (Str.ofString "__cached__") 174) Value.none, DictEntry.mk (PyData.keyHash P (Str.ofString "FdError")) (Value.str (Str.ofString "FdError") 226) (Value.ref 40), DictEntry.mk (PyData.keyHash P (Str.ofString "SpotFault")) (Value.str (Str.ofString "SpotFault") 261) (Value.ref 69)] 11) #[]
noncomputable def hd.o_82 : Params → Obj := fun P => Obj.mk Value.none none (Data.fields #[Value.int 2 0, Value.int 0 0, Value.ref 21, Value.int 10 0, Value.int 0 0, Value.ref 50]) #[]
noncomputable def hd.o_83 : Params → Obj := fun P => Obj.mk (Value.type "type") none (Data.cls (ClassData.mk (Str.ofString "FdError") [Value.type "Exception"] [Value.ref 40, Value.type "Exception", Value.type "BaseException", Value.type "object"] 39 (Str.ofString "FdError") true [] [Value.ref 69] false none false)) #[some (Value.ref 15), none, some (Value.str (Str.ofString "FdError") 189), some (Value.str (Str.ofString "FdError") 197), some (Value.builtin "Exception.__new__"), some (Value.bool true)]
noncomputable def hd.o_84 : Params → Obj := fun P => Obj.mk (Value.type "tuple") none (Data.seq #[Value.ref 40]) #[]
noncomputable def hd.o_85 : Params → Obj := fun P => Obj.mk (Value.type "builtin_function_or_method") none (Data.fields #[Value.builtin "type.__prepare__", Value.type "type"]) #[]
noncomputable def hd.o_86 : Params → Obj := fun P => Obj.mk (Value.type "dict") none (Data.dict #[DictEntry.mk (PyData.keyHash P (Str.ofString "__module__")) (Value.str (Str.ofString "__module__") 234) (Value.str (Str.ofString "fdsolve.errors") 187), DictEntry.mk (PyData.keyHash P (Str.ofString "__qualname__")) (Value.str (Str.ofString "__qualname__") 236) (Value.str (Str.ofString "SpotFault") 235), DictEntry.mk (PyData.keyHash P (Str.ofString "__firstlineno__")) (Value.str (Str.ofString "__firstlineno__") 238) (Value.int 10 237), DictEntry.mk (PyData.keyHash P (Str.ofString "__init__")) (Value.str (Str.ofString "__init__") 248) (Value.ref 59), DictEntry.mk (PyData.keyHash P (Str.ofString "told")) (Value.str (Str.ofString "told") 255) (Value.ref 66), DictEntry.mk (PyData.keyHash P (Str.ofString "__static_attributes__")) (Value.str (Str.ofString "__static_attributes__") 257) (Value.ref 67), DictEntry.mk (PyData.keyHash P (Str.ofString "__classcell__")) (Value.str (Str.ofString "__classcell__") 258) (Value.ref 47)] 7) #[]
noncomputable def hd.o_87 : Params → Obj := fun P => Obj.mk (Value.type "cell") none (Data.cell (some (Value.ref 69))) #[]
noncomputable def hd.o_88 : Params → Obj := fun P => Obj.mk (Value.type "tuple") none (Data.seq #[]) #[]
noncomputable def hd.o_89 : Params → Obj := fun P => Obj.mk Value.none none (Data.fields #[Value.int 12 0, Value.int 4 0, Value.ref 58, Value.int 16 0, Value.int 4 0, Value.ref 65]) #[]
noncomputable def hd.o_90 : Params → Obj := fun P => Obj.mk (Value.type "code") none (Data.fields #[Value.str (Str.ofString "SpotFault") 229, Value.str (Str.ofString "SpotFault") 230, Value.str (Str.ofString "/claim/cut.py") 231, Value.int 10 0, Value.int 0 0, Value.int 0 0, Value.int 0 0, Value.int 0 0, Value.ref 48, Value.bool false, Value.int 181 0, Value.ref 49, Value.none, Value.none, Value.none, Value.none, Value.int 232 0, Value.int 10 0, Value.str (Str.ofString "/claim/cut.py") 233]) #[]
noncomputable def hd.o_91 : Params → Obj := fun P => Obj.mk (Value.type "frame") none Data.plain #[some (Value.ref 50), some (Value.ref 3), some (Value.ref 46), none, some (Value.str (Str.ofString "fdsolve.errors") 187), none, some (Value.ref 0)]
noncomputable def hd.o_92 : Params → Obj := fun P => Obj.mk (Value.type "tuple") none (Data.seq #[Value.ref 47]) #[]
noncomputable def hd.o_93 : Params → Obj := fun P => Obj.mk (Value.type "tuple") none (Data.seq #[Value.str (Str.ofString "__class__") 242]) #[]
noncomputable def hd.o_94 : Params → Obj := fun P => Obj.mk Value.none none (Data.fields #[]) #[]
noncomputable def hd.o_95 : Params → Obj := fun P => Obj.mk (Value.type "tuple") none (Data.seq #[Value.str (Str.ofString "self") 243, Value.str (Str.ofString "what") 244, Value.str (Str.ofString "spot") 245]) #[]
noncomputable def hd.o_96 : Params → Obj := fun P => Obj.mk (Value.type "tuple") none (Data.seq #[]) #[]
noncomputable def hd.o_97 : Params → Obj := fun P => Obj.mk Value.none none (Data.func (FuncData.mk (Str.ofString "__init__") (Str.ofString "SpotFault.__init__") (fA (subA (stA 2) 0)) (FuncBody.stmts (fB (subA (stA 2) 0))) (fS (subA (stA 2) 0)) 0 [] Value.none Value.none Value.none Value.none none Value.none Value.none 0)) #[]
noncomputable def hd.o_98 : Params → Obj := fun P => Obj.mk (Value.type "code") none (Data.fields #[Value.str (Str.ofString "__init__") 239, Value.str (Str.ofString "SpotFault.__init__") 240, Value.str (Str.ofString "/claim/cut.py") 241, Value.int 12 0, Value.int 3 0, Value.int 0 0, Value.int 0 0, Value.int 3 0, Value.ref 53, Value.bool true, Value.int 181 0, Value.ref 54, Value.none, Value.ref 55, Value.ref 56, Value.ref 57, Value.int 246 0, Value.int 12 0, Value.str (Str.ofString "/claim/cut.py") 247]) #[]
noncomputable def hd.o_99 : Params → Obj := fun P => Obj.mk (Value.type "function") none (Data.func (FuncData.mk (Str.ofString "__init__") (Str.ofString "SpotFault.__init__") (fA (subA (stA 2) 0)) (FuncBody.stmts (fB (subA (stA 2) 0))) (fS (subA (stA 2) 0)) 3 [(Str.ofString "__class__", 47)] Value.none Value.none Value.none (Value.str (Str.ofString "fdsolve.errors") 187) none (Value.ref 58) (Value.ref 52) 0)) #[]
noncomputable def hd.o_100 : Params → Obj := fun P => Obj.mk (Value.type "tuple") none (Data.seq #[]) #[]
noncomputable def hd.o_101 : Params → Obj := fun P => Obj.mk Value.none none (Data.fields #[]) #[]
noncomputable def hd.o_102 : Params → Obj := fun P => Obj.mk (Value.type "tuple") none (Data.seq #[Value.str (Str.ofString "self") 252]) #[]
noncomputable def hd.o_103 : Params → Obj := fun P => Obj.mk (Value.type "tuple") none (Data.seq #[]) #[]
noncomputable def hd.o_104 : Params → Obj := fun P => Obj.mk Value.none none (Data.func (FuncData.mk (Str.ofString "told") (Str.ofString "SpotFault.told") (fA (subA (stA 2) 1)) (FuncBody.stmts (fB (subA (stA 2) 1))) (fS (subA (stA 2) 1)) 0 [] Value.none Value.none Value.none Value.none none Value.none Value.none 0)) #[]
noncomputable def hd.o_105 : Params → Obj := fun P => Obj.mk (Value.type "code") none (Data.fields #[Value.str (Str.ofString "told") 249, Value.str (Str.ofString "SpotFault.told") 250, Value.str (Str.ofString "/claim/cut.py") 251, Value.int 16 0, Value.int 1 0, Value.int 0 0, Value.int 0 0, Value.int 3 0, Value.ref 60, Value.bool true, Value.int 181 0, Value.ref 61, Value.none, Value.ref 62, Value.ref 63, Value.ref 64, Value.int 253 0, Value.int 16 0, Value.str (Str.ofString "/claim/cut.py") 254]) #[]
noncomputable def hd.o_106 : Params → Obj := fun P => Obj.mk (Value.type "function") none (Data.func (FuncData.mk (Str.ofString "told") (Str.ofString "SpotFault.told") (fA (subA (stA 2) 1)) (FuncBody.stmts (fB (subA (stA 2) 1))) (fS (subA (stA 2) 1)) 3 [] Value.none Value.none Value.none (Value.str (Str.ofString "fdsolve.errors") 187) none (Value.ref 65) Value.none 0)) #[]
noncomputable def hd.o_107 : Params → Obj := fun P => Obj.mk (Value.type "tuple") none (Data.seq #[Value.str (Str.ofString "spot") 256]) #[]
noncomputable def hd.o_108 : Params → Obj := fun P => Obj.mk (Value.type "dict") none (Data.dict #[DictEntry.mk (PyData.keyHash P (Str.ofString "__module__")) (Value.str (Str.ofString "__module__") 234) (Value.str (Str.ofString "fdsolve.errors") 187), DictEntry.mk (PyData.keyHash P (Str.ofString "__firstlineno__")) (Value.str (Str.ofString "__firstlineno__") 238) (Value.int 10 237), DictEntry.mk (PyData.keyHash P (Str.ofString "__init__")) (Value.str (Str.ofString "__init__") 248) (Value.ref 59), DictEntry.mk (PyData.keyHash P (Str.ofString "told")) (Value.str (Str.ofString "told") 255) (Value.ref 66), DictEntry.mk (PyData.keyHash P (Str.ofString "__static_attributes__")) (Value.str (Str.ofString "__static_attributes__") 257) (Value.ref 67), DictEntry.mk (PyData.keyHash P (Str.ofString "__doc__")) (Value.str (Str.ofString "__doc__") 259) Value.none] 3) #[]
noncomputable def hd.o_109 : Params → Obj := fun P => Obj.mk (Value.type "type") none (Data.cls (ClassData.mk (Str.ofString "SpotFault") [Value.ref 40] [Value.ref 69, Value.ref 40, Value.type "Exception", Value.type "BaseException", Value.type "object"] 68 (Str.ofString "SpotFault") true [] [] false none false)) #[some (Value.ref 44), none, some (Value.str (Str.ofString "SpotFault") 227), some (Value.str (Str.ofString "SpotFault") 235), some (Value.builtin "Exception.__new__"), some (Value.bool true)]
noncomputable def hd.o_110 : Params → Obj := fun P => Obj.mk (Value.type "super") none (Data.fields #[Value.ref 69, Value.ref 69, Value.ref 69]) #[]
noncomputable def hd.o_111 : Params → Obj := fun P => Obj.mk (Value.type "builtin_function_or_method") none (Data.fields #[Value.builtin "object.__init_subclass__", Value.ref 69]) #[]
noncomputable def hd.o_112 : Params → Obj := fun P => Obj.mk (Value.type "dict") none (Data.dict #[DictEntry.mk (PyData.keyHash P (Str.ofString "__name__")) (Value.str (Str.ofString "__name__") 165) (Value.str (Str.ofString "fdsolve.flat") 278), DictEntry.mk (PyData.keyHash P (Str.ofString "__doc__")) (Value.str (Str.ofString "__doc__") 166) Value.none, DictEntry.mk (PyData.keyHash P (Str.ofString "__package__")) (Value.str (Str.ofString "__package__") 167) Value.none, DictEntry.mk (PyData.keyHash P (Str.ofString "__loader__")) (Value.str (Str.ofString "__loader__") 168) (Value.builtin "__main__.__loader__#opaque"), DictEntry.mk (PyData.keyHash P (Str.ofString "__spec__")) (Value.str (Str.ofString "__spec__") 169) Value.none, DictEntry.mk (PyData.keyHash P (Str.ofString "__annotations__")) (Value.str (Str.ofString "__annotations__") 170) (Value.ref 6), DictEntry.mk (PyData.keyHash P (Str.ofString "__builtins__")) (Value.str (Str.ofString "__builtins__") 171) (Value.ref 4), DictEntry.mk (PyData.keyHash P (Str.ofString "__file__")) (Value.str (Str.ofString "__file__") 173) (Value.str (Str.ofString "/claim/cut.py") 172), DictEntry.mk (PyData.keyHash P (Str.ofString "__cached__")) (Value.str (Str.ofString "__cached__") 174) Value.none, DictEntry.mk (PyData.keyHash P (Str.ofString "FdError")) (Value.str (Str.ofString "FdError") 226) (Value.ref 40), DictEntry.mk (PyData.keyHash P (Str.ofString "SpotFault")) (Value.str (Str.ofString "SpotFault") 261) (Value.ref 69), DictEntry.mk (PyData.keyHash P (Str.ofString "TextFault")) (Value.str (Str.ofString "TextFault") 277) (Value.ref 81), DictEntry.mk (PyData.keyHash P (Str.ofString "DIGITS")) (Value.str (Str.ofString "DIGITS") 281) (Value.str (Str.ofString "0123456789") 280), DictEntry.mk (PyData.keyHash P (Str.ofString "LETTERS")) (Value.str (Str.ofString "LETTERS") 283) (Value.str (Str.ofString "abcdefghijklmnopqrstuvwxyzABCDEFGHIJKLMNOPQRSTUVWXYZ_") 282), DictEntry.mk (PyData.keyHash P (Str.ofString "SIGNS")) (Value.str (Str.ofString "SIGNS") 285) (Value.str (Str.ofString "()[]{},;:") 284), DictEntry.mk (PyData.keyHash P (Str.ofString "MOST_DIGITS")) (Value.str (Str.ofString "MOST_DIGITS") 287) (Value.int 1000 286)] 16) #[]
noncomputable def hd.o_113 : Params → Obj := fun P => Obj.mk Value.none none (Data.fields #[Value.int 2 0, Value.int 0 0, Value.ref 21, Value.int 10 0, Value.int 0 0, Value.ref 50, Value.int 18 0, Value.int 0 0, Value.ref 77]) #[]
noncomputable def hd.o_114 : Params → Obj := fun P => Obj.mk (Value.type "type") none (Data.cls (ClassData.mk (Str.ofString "SpotFault") [Value.ref 40] [Value.ref 69, Value.ref 40, Value.type "Exception", Value.type "BaseException", Value.type "object"] 68 (Str.ofString "SpotFault") true [] [Value.ref 81] false none false)) #[some (Value.ref 44), none, some (Value.str (Str.ofString "SpotFault") 227), some (Value.str (Str.ofString "SpotFault") 235), some (Value.builtin "Exception.__new__"), some (Value.bool true)]
noncomputable def hd.o_115 : Params → Obj := fun P => Obj.mk (Value.type "tuple") none (Data.seq #[Value.ref 69]) #[]
noncomputable def hd.o_116 : Params → Obj := fun P => Obj.mk (Value.type "builtin_function_or_method") none (Data.fields #[Value.builtin "type.__prepare__", Value.type "type"]) #[]
noncomputable def hd.o_117 : Params → Obj := fun P => Obj.mk (Value.type "dict") none (Data.dict #[DictEntry.mk (PyData.keyHash P (Str.ofString "__module__")) (Value.str (Str.ofString "__module__") 269) (Value.str (Str.ofString "fdsolve.errors") 187), DictEntry.mk (PyData.keyHash P (Str.ofString "__qualname__")) (Value.str (Str.ofString "__qualname__") 271) (Value.str (Str.ofString "TextFault") 270), DictEntry.mk (PyData.keyHash P (Str.ofString "__firstlineno__")) (Value.str (Str.ofString "__firstlineno__") 273) (Value.int 18 272), DictEntry.mk (PyData.keyHash P (Str.ofString "__static_attributes__")) (Value.str (Str.ofString "__static_attributes__") 274) (Value.ref 79)] 4) #[]
noncomputable def hd.o_118 : Params → Obj := fun P => Obj.mk (Value.type "tuple") none (Data.seq #[]) #[]
noncomputable def hd.o_119 : Params → Obj := fun P => Obj.mk Value.none none (Data.fields #[]) #[]
noncomputable def hd.o_120 : Params → Obj := fun P => Obj.mk (Value.type "code") none (Data.fields #[Value.str (Str.ofString "TextFault") 264, Value.str (Str.ofString "TextFault") 265, Value.str (Str.ofString "/claim/cut.py") 266, Value.int 18 0, Value.int 0 0, Value.int 0 0, Value.int 0 0, Value.int 0 0, Value.ref 75, Value.bool false, Value.int 181 0, Value.ref 76, Value.none, Value.none, Value.none, Value.none, Value.int 267 0, Value.int 18 0, Value.str (Str.ofString "/claim/cut.py") 268]) #[]
noncomputable def hd.o_121 : Params → Obj := fun P => Obj.mk (Value.type "frame") none Data.plain #[some (Value.ref 77), some (Value.ref 3), some (Value.ref 74), none, some (Value.str (Str.ofString "fdsolve.errors") 187), none, some (Value.ref 0)]
noncomputable def hd.o_122 : Params → Obj := fun P => Obj.mk (Value.type "tuple") none (Data.seq #[]) #[]
noncomputable def hd.o_123 : Params → Obj := fun P => Obj.mk (Value.type "dict") none (Data.dict #[DictEntry.mk (PyData.keyHash P (Str.ofString "__module__")) (Value.str (Str.ofString "__module__") 269) (Value.str (Str.ofString "fdsolve.errors") 187), DictEntry.mk (PyData.keyHash P (Str.ofString "__firstlineno__")) (Value.str (Str.ofString "__firstlineno__") 273) (Value.int 18 272), DictEntry.mk (PyData.keyHash P (Str.ofString "__static_attributes__")) (Value.str (Str.ofString "__static_attributes__") 274) (Value.ref 79), DictEntry.mk (PyData.keyHash P (Str.ofString "__doc__")) (Value.str (Str.ofString "__doc__") 275) Value.none] 2) #[]
noncomputable def hd.o_124 : Params → Obj := fun P => Obj.mk (Value.type "type") none (Data.cls (ClassData.mk (Str.ofString "TextFault") [Value.ref 69] [Value.ref 81, Value.ref 69, Value.ref 40, Value.type "Exception", Value.type "BaseException", Value.type "object"] 80 (Str.ofString "TextFault") true [] [] false none false)) #[some (Value.ref 72), none, some (Value.str (Str.ofString "TextFault") 262), some (Value.str (Str.ofString "TextFault") 270), some (Value.builtin "Exception.__new__"), some (Value.bool true)]
noncomputable def hd.o_125 : Params → Obj := fun P => Obj.mk (Value.type "super") none (Data.fields #[Value.ref 81, Value.ref 81, Value.ref 81]) #[]
noncomputable def hd.o_126 : Params → Obj := fun P => Obj.mk (Value.type "builtin_function_or_method") none (Data.fields #[Value.builtin "object.__init_subclass__", Value.ref 81]) #[]
noncomputable def hd.o_127 : Params → Obj := fun P => Obj.mk (Value.type "dict") none (Data.dict #[DictEntry.mk (PyData.keyHash P (Str.ofString "__name__")) (Value.str (Str.ofString "__name__") 165) (Value.str (Str.ofString "fdsolve.flat") 278), DictEntry.mk (PyData.keyHash P (Str.ofString "__doc__")) (Value.str (Str.ofString "__doc__") 166) Value.none, DictEntry.mk (PyData.keyHash P (Str.ofString "__package__")) (Value.str (Str.ofString "__package__") 167) Value.none, DictEntry.mk (PyData.keyHash P (Str.ofString "__loader__")) (Value.str (Str.ofString "__loader__") 168) (Value.builtin "__main__.__loader__#opaque"), DictEntry.mk (PyData.keyHash P (Str.ofString "__spec__")) (Value.str (Str.ofString "__spec__") 169) Value.none, DictEntry.mk (PyData.keyHash P (Str.ofString "__annotations__")) (Value.str (Str.ofString "__annotations__") 170) (Value.ref 6), DictEntry.mk (PyData.keyHash P (Str.ofString "__builtins__")) (Value.str (Str.ofString "__builtins__") 171) (Value.ref 4), DictEntry.mk (PyData.keyHash P (Str.ofString "__file__")) (Value.str (Str.ofString "__file__") 173) (Value.str (Str.ofString "/claim/cut.py") 172), DictEntry.mk (PyData.keyHash P (Str.ofString "__cached__")) (Value.str (Str.ofString "__cached__") 174) Value.none, DictEntry.mk (PyData.keyHash P (Str.ofString "FdError")) (Value.str (Str.ofString "FdError") 226) (Value.ref 40), DictEntry.mk (PyData.keyHash P (Str.ofString "SpotFault")) (Value.str (Str.ofString "SpotFault") 261) (Value.ref 69), DictEntry.mk (PyData.keyHash P (Str.ofString "TextFault")) (Value.str (Str.ofString "TextFault") 277) (Value.ref 81), DictEntry.mk (PyData.keyHash P (Str.ofString "DIGITS")) (Value.str (Str.ofString "DIGITS") 281) (Value.str (Str.ofString "0123456789") 280), DictEntry.mk (PyData.keyHash P (Str.ofString "LETTERS")) (Value.str (Str.ofString "LETTERS") 283) (Value.str (Str.ofString "abcdefghijklmnopqrstuvwxyzABCDEFGHIJKLMNOPQRSTUVWXYZ_") 282), DictEntry.mk (PyData.keyHash P (Str.ofString "SIGNS")) (Value.str (Str.ofString "SIGNS") 285) (Value.str (Str.ofString "()[]{},;:") 284), DictEntry.mk (PyData.keyHash P (Str.ofString "MOST_DIGITS")) (Value.str (Str.ofString "MOST_DIGITS") 287) (Value.int 1000 286), DictEntry.mk (PyData.keyHash P (Str.ofString "FlatScanner")) (Value.str (Str.ofString "FlatScanner") 371) (Value.ref 142)] 17) #[]
noncomputable def hd.o_128 : Params → Obj := fun P => Obj.mk Value.none none (Data.fields #[Value.int 2 0, Value.int 0 0, Value.ref 21, Value.int 10 0, Value.int 0 0, Value.ref 50, Value.int 18 0, Value.int 0 0, Value.ref 77, Value.int 25 0, Value.int 0 0, Value.ref 89]) #[]
noncomputable def hd.o_129 : Params → Obj := fun P => Obj.mk (Value.type "tuple") none (Data.seq #[]) #[]
noncomputable def hd.o_130 : Params → Obj := fun P => Obj.mk (Value.type "builtin_function_or_method") none (Data.fields #[Value.builtin "type.__prepare__", Value.type "type"]) #[]
noncomputable def hd.o_131 : Params → Obj := fun P => Obj.mk (Value.type "dict") none (Data.dict #[DictEntry.mk (PyData.keyHash P (Str.ofString "__module__")) (Value.str (Str.ofString "__module__") 295) (Value.str (Str.ofString "fdsolve.flat") 278), DictEntry.mk (PyData.keyHash P (Str.ofString "__qualname__")) (Value.str (Str.ofString "__qualname__") 297) (Value.str (Str.ofString "FlatScanner") 296), DictEntry.mk (PyData.keyHash P (Str.ofString "__firstlineno__")) (Value.str (Str.ofString "__firstlineno__") 299) (Value.int 25 298), DictEntry.mk (PyData.keyHash P (Str.ofString "__init__")) (Value.str (Str.ofString "__init__") 307) (Value.ref 97), DictEntry.mk (PyData.keyHash P (Str.ofString "sign")) (Value.str (Str.ofString "sign") 314) (Value.ref 104), DictEntry.mk (PyData.keyHash P (Str.ofString "skip")) (Value.str (Str.ofString "skip") 322) (Value.ref 111), DictEntry.mk (PyData.keyHash P (Str.ofString "run_of")) (Value.str (Str.ofString "run_of") 332) (Value.ref 118), DictEntry.mk (PyData.keyHash P (Str.ofString "quotation")) (Value.str (Str.ofString "quotation") 342) (Value.ref 125), DictEntry.mk (PyData.keyHash P (Str.ofString "number")) (Value.str (Str.ofString "number") 352) (Value.ref 132), DictEntry.mk (PyData.keyHash P (Str.ofString "token")) (Value.str (Str.ofString "token") 361) (Value.ref 139), DictEntry.mk (PyData.keyHash P (Str.ofString "__static_attributes__")) (Value.str (Str.ofString "__static_attributes__") 364) (Value.ref 140)] 11) #[]
noncomputable def hd.o_132 : Params → Obj := fun P => Obj.mk (Value.type "tuple") none (Data.seq #[]) #[]
noncomputable def hd.o_133 : Params → Obj := fun P => Obj.mk Value.none none (Data.fields #[Value.int 27 0, Value.int 4 0, Value.ref 96, Value.int 31 0, Value.int 4 0, Value.ref 103, Value.int 34 0, Value.int 4 0, Value.ref 110, Value.int 41 0, Value.int 4 0, Value.ref 117, Value.int 48 0, Value.int 4 0, Value.ref 124, Value.int 65 0, Value.int 4 0, Value.ref 131, Value.int 74 0, Value.int 4 0, Value.ref 138]) #[]
noncomputable def hd.o_134 : Params → Obj := fun P => Obj.mk (Value.type "code") none (Data.fields #[Value.str (Str.ofString "FlatScanner") 290, Value.str (Str.ofString "FlatScanner") 291, Value.str (Str.ofString "/claim/cut.py") 292, Value.int 25 0, Value.int 0 0, Value.int 0 0, Value.int 0 0, Value.int 0 0, Value.ref 87, Value.bool false, Value.int 181 0, Value.ref 88, Value.none, Value.none, Value.none, Value.none, Value.int 293 0, Value.int 25 0, Value.str (Str.ofString "/claim/cut.py") 294]) #[]
noncomputable def hd.o_135 : Params → Obj := fun P => Obj.mk (Value.type "frame") none Data.plain #[some (Value.ref 89), some (Value.ref 3), some (Value.ref 86), none, some (Value.str (Str.ofString "fdsolve.flat") 278), none, some (Value.ref 0)]
noncomputable def hd.o_136 : Params → Obj := fun P => Obj.mk (Value.type "tuple") none (Data.seq #[]) #[]
noncomputable def hd.o_137 : Params → Obj := fun P => Obj.mk Value.none none (Data.fields #[]) #[]
noncomputable def hd.o_138 : Params → Obj := fun P => Obj.mk (Value.type "tuple") none (Data.seq #[Value.str (Str.ofString "self") 303, Value.str (Str.ofString "text") 304]) #[]
noncomputable def hd.o_139 : Params → Obj := fun P => Obj.mk (Value.type "tuple") none (Data.seq #[]) #[]
noncomputable def hd.o_140 : Params → Obj := fun P => Obj.mk Value.none none (Data.func (FuncData.mk (Str.ofString "__init__") (Str.ofString "FlatScanner.__init__") (fA (subA (stA 9) 0)) (FuncBody.stmts (fB (subA (stA 9) 0))) (fS (subA (stA 9) 0)) 0 [] Value.none Value.none Value.none Value.none none Value.none Value.none 0)) #[]
noncomputable def hd.o_141 : Params → Obj := fun P => Obj.mk (Value.type "code") none (Data.fields #[Value.str (Str.ofString "__init__") 300, Value.str (Str.ofString "FlatScanner.__init__") 301, Value.str (Str.ofString "/claim/cut.py") 302, Value.int 27 0, Value.int 2 0, Value.int 0 0, Value.int 0 0, Value.int 3 0, Value.ref 91, Value.bool true, Value.int 181 0, Value.ref 92, Value.none, Value.ref 93, Value.ref 94, Value.ref 95, Value.int 305 0, Value.int 27 0, Value.str (Str.ofString "/claim/cut.py") 306]) #[]
noncomputable def hd.o_142 : Params → Obj := fun P => Obj.mk (Value.type "function") none (Data.func (FuncData.mk (Str.ofString "__init__") (Str.ofString "FlatScanner.__init__") (fA (subA (stA 9) 0)) (FuncBody.stmts (fB (subA (stA 9) 0))) (fS (subA (stA 9) 0)) 3 [] Value.none Value.none Value.none (Value.str (Str.ofString "fdsolve.flat") 278) none (Value.ref 96) Value.none 0)) #[]
noncomputable def hd.o_143 : Params → Obj := fun P => Obj.mk (Value.type "tuple") none (Data.seq #[]) #[]
noncomputable def hd.o_144 : Params → Obj := fun P => Obj.mk Value.none none (Data.fields #[]) #[]
noncomputable def hd.o_145 : Params → Obj := fun P => Obj.mk (Value.type "tuple") none (Data.seq #[Value.str (Str.ofString "self") 311]) #[]
noncomputable def hd.o_146 : Params → Obj := fun P => Obj.mk (Value.type "tuple") none (Data.seq #[]) #[]
noncomputable def hd.o_147 : Params → Obj := fun P => Obj.mk Value.none none (Data.func (FuncData.mk (Str.ofString "sign") (Str.ofString "FlatScanner.sign") (fA (subA (stA 9) 1)) (FuncBody.stmts (fB (subA (stA 9) 1))) (fS (subA (stA 9) 1)) 0 [] Value.none Value.none Value.none Value.none none Value.none Value.none 0)) #[]
noncomputable def hd.o_148 : Params → Obj := fun P => Obj.mk (Value.type "code") none (Data.fields #[Value.str (Str.ofString "sign") 308, Value.str (Str.ofString "FlatScanner.sign") 309, Value.str (Str.ofString "/claim/cut.py") 310, Value.int 31 0, Value.int 1 0, Value.int 0 0, Value.int 0 0, Value.int 3 0, Value.ref 98, Value.bool true, Value.int 181 0, Value.ref 99, Value.none, Value.ref 100, Value.ref 101, Value.ref 102, Value.int 312 0, Value.int 31 0, Value.str (Str.ofString "/claim/cut.py") 313]) #[]
noncomputable def hd.o_149 : Params → Obj := fun P => Obj.mk (Value.type "function") none (Data.func (FuncData.mk (Str.ofString "sign") (Str.ofString "FlatScanner.sign") (fA (subA (stA 9) 1)) (FuncBody.stmts (fB (subA (stA 9) 1))) (fS (subA (stA 9) 1)) 3 [] Value.none Value.none Value.none (Value.str (Str.ofString "fdsolve.flat") 278) none (Value.ref 103) Value.none 0)) #[]
noncomputable def hd.o_150 : Params → Obj := fun P => Obj.mk (Value.type "tuple") none (Data.seq #[]) #[]
noncomputable def hd.o_151 : Params → Obj := fun P => Obj.mk Value.none none (Data.fields #[]) #[]
noncomputable def hd.o_152 : Params → Obj := fun P => Obj.mk (Value.type "tuple") none (Data.seq #[Value.str (Str.ofString "self") 318, Value.str (Str.ofString "end") 319]) #[]
noncomputable def hd.o_153 : Params → Obj := fun P => Obj.mk (Value.type "tuple") none (Data.seq #[]) #[]
noncomputable def hd.o_154 : Params → Obj := fun P => Obj.mk Value.none none (Data.func (FuncData.mk (Str.ofString "skip") (Str.ofString "FlatScanner.skip") (fA (subA (stA 9) 2)) (FuncBody.stmts (fB (subA (stA 9) 2))) (fS (subA (stA 9) 2)) 0 [] Value.none Value.none Value.none Value.none none Value.none Value.none 0)) #[]
noncomputable def hd.o_155 : Params → Obj := fun P => Obj.mk (Value.type "code") none (Data.fields #[Value.str (Str.ofString "skip") 315, Value.str (Str.ofString "FlatScanner.skip") 316, Value.str (Str.ofString "/claim/cut.py") 317, Value.int 34 0, Value.int 1 0, Value.int 0 0, Value.int 0 0, Value.int 3 0, Value.ref 105, Value.bool true, Value.int 181 0, Value.ref 106, Value.none, Value.ref 107, Value.ref 108, Value.ref 109, Value.int 320 0, Value.int 34 0, Value.str (Str.ofString "/claim/cut.py") 321]) #[]
noncomputable def hd.o_156 : Params → Obj := fun P => Obj.mk (Value.type "function") none (Data.func (FuncData.mk (Str.ofString "skip") (Str.ofString "FlatScanner.skip") (fA (subA (stA 9) 2)) (FuncBody.stmts (fB (subA (stA 9) 2))) (fS (subA (stA 9) 2)) 3 [] Value.none Value.none Value.none (Value.str (Str.ofString "fdsolve.flat") 278) none (Value.ref 110) Value.none 0)) #[]
noncomputable def hd.o_157 : Params → Obj := fun P => Obj.mk (Value.type "tuple") none (Data.seq #[]) #[]
noncomputable def hd.o_158 : Params → Obj := fun P => Obj.mk Value.none none (Data.fields #[]) #[]
noncomputable def hd.o_159 : Params → Obj := fun P => Obj.mk (Value.type "tuple") none (Data.seq #[Value.str (Str.ofString "self") 326, Value.str (Str.ofString "signs") 327, Value.str (Str.ofString "begin") 328, Value.str (Str.ofString "spot") 329]) #[]
noncomputable def hd.o_160 : Params → Obj := fun P => Obj.mk (Value.type "tuple") none (Data.seq #[]) #[]
noncomputable def hd.o_161 : Params → Obj := fun P => Obj.mk Value.none none (Data.func (FuncData.mk (Str.ofString "run_of") (Str.ofString "FlatScanner.run_of") (fA (subA (stA 9) 3)) (FuncBody.stmts (fB (subA (stA 9) 3))) (fS (subA (stA 9) 3)) 0 [] Value.none Value.none Value.none Value.none none Value.none Value.none 0)) #[]
noncomputable def hd.o_162 : Params → Obj := fun P => Obj.mk (Value.type "code") none (Data.fields #[Value.str (Str.ofString "run_of") 323, Value.str (Str.ofString "FlatScanner.run_of") 324, Value.str (Str.ofString "/claim/cut.py") 325, Value.int 41 0, Value.int 2 0, Value.int 0 0, Value.int 0 0, Value.int 3 0, Value.ref 112, Value.bool true, Value.int 181 0, Value.ref 113, Value.none, Value.ref 114, Value.ref 115, Value.ref 116, Value.int 330 0, Value.int 41 0, Value.str (Str.ofString "/claim/cut.py") 331]) #[]
noncomputable def hd.o_163 : Params → Obj := fun P => Obj.mk (Value.type "function") none (Data.func (FuncData.mk (Str.ofString "run_of") (Str.ofString "FlatScanner.run_of") (fA (subA (stA 9) 3)) (FuncBody.stmts (fB (subA (stA 9) 3))) (fS (subA (stA 9) 3)) 3 [] Value.none Value.none Value.none (Value.str (Str.ofString "fdsolve.flat") 278) none (Value.ref 117) Value.none 0)) #[]
noncomputable def hd.o_164 : Params → Obj := fun P => Obj.mk (Value.type "tuple") none (Data.seq #[]) #[]
noncomputable def hd.o_165 : Params → Obj := fun P => Obj.mk Value.none none (Data.fields #[]) #[]
noncomputable def hd.o_166 : Params → Obj := fun P => Obj.mk (Value.type "tuple") none (Data.seq #[Value.str (Str.ofString "self") 336, Value.str (Str.ofString "begin") 337, Value.str (Str.ofString "pieces") 338, Value.str (Str.ofString "sign") 339]) #[]
noncomputable def hd.o_167 : Params → Obj := fun P => Obj.mk (Value.type "tuple") none (Data.seq #[]) #[]
noncomputable def hd.o_168 : Params → Obj := fun P => Obj.mk Value.none none (Data.func (FuncData.mk (Str.ofString "quotation") (Str.ofString "FlatScanner.quotation") (fA (subA (stA 9) 4)) (FuncBody.stmts (fB (subA (stA 9) 4))) (fS (subA (stA 9) 4)) 0 [] Value.none Value.none Value.none Value.none none Value.none Value.none 0)) #[]
noncomputable def hd.o_169 : Params → Obj := fun P => Obj.mk (Value.type "code") none (Data.fields #[Value.str (Str.ofString "quotation") 333, Value.str (Str.ofString "FlatScanner.quotation") 334, Value.str (Str.ofString "/claim/cut.py") 335, Value.int 48 0, Value.int 1 0, Value.int 0 0, Value.int 0 0, Value.int 3 0, Value.ref 119, Value.bool true, Value.int 181 0, Value.ref 120, Value.none, Value.ref 121, Value.ref 122, Value.ref 123, Value.int 340 0, Value.int 48 0, Value.str (Str.ofString "/claim/cut.py") 341]) #[]
noncomputable def hd.o_170 : Params → Obj := fun P => Obj.mk (Value.type "function") none (Data.func (FuncData.mk (Str.ofString "quotation") (Str.ofString "FlatScanner.quotation") (fA (subA (stA 9) 4)) (FuncBody.stmts (fB (subA (stA 9) 4))) (fS (subA (stA 9) 4)) 3 [] Value.none Value.none Value.none (Value.str (Str.ofString "fdsolve.flat") 278) none (Value.ref 124) Value.none 0)) #[]
noncomputable def hd.o_171 : Params → Obj := fun P => Obj.mk (Value.type "tuple") none (Data.seq #[]) #[]
noncomputable def hd.o_172 : Params → Obj := fun P => Obj.mk Value.none none (Data.fields #[]) #[]
noncomputable def hd.o_173 : Params → Obj := fun P => Obj.mk (Value.type "tuple") none (Data.seq #[Value.str (Str.ofString "self") 346, Value.str (Str.ofString "begin") 347, Value.str (Str.ofString "is_below") 348, Value.str (Str.ofString "digits") 349]) #[]
noncomputable def hd.o_174 : Params → Obj := fun P => Obj.mk (Value.type "tuple") none (Data.seq #[]) #[]
noncomputable def hd.o_175 : Params → Obj := fun P => Obj.mk Value.none none (Data.func (FuncData.mk (Str.ofString "number") (Str.ofString "FlatScanner.number") (fA (subA (stA 9) 5)) (FuncBody.stmts (fB (subA (stA 9) 5))) (fS (subA (stA 9) 5)) 0 [] Value.none Value.none Value.none Value.none none Value.none Value.none 0)) #[]
noncomputable def hd.o_176 : Params → Obj := fun P => Obj.mk (Value.type "code") none (Data.fields #[Value.str (Str.ofString "number") 343, Value.str (Str.ofString "FlatScanner.number") 344, Value.str (Str.ofString "/claim/cut.py") 345, Value.int 65 0, Value.int 1 0, Value.int 0 0, Value.int 0 0, Value.int 3 0, Value.ref 126, Value.bool true, Value.int 181 0, Value.ref 127, Value.none, Value.ref 128, Value.ref 129, Value.ref 130, Value.int 350 0, Value.int 65 0, Value.str (Str.ofString "/claim/cut.py") 351]) #[]
noncomputable def hd.o_177 : Params → Obj := fun P => Obj.mk (Value.type "function") none (Data.func (FuncData.mk (Str.ofString "number") (Str.ofString "FlatScanner.number") (fA (subA (stA 9) 5)) (FuncBody.stmts (fB (subA (stA 9) 5))) (fS (subA (stA 9) 5)) 3 [] Value.none Value.none Value.none (Value.str (Str.ofString "fdsolve.flat") 278) none (Value.ref 131) Value.none 0)) #[]
noncomputable def hd.o_178 : Params → Obj := fun P => Obj.mk (Value.type "tuple") none (Data.seq #[]) #[]
noncomputable def hd.o_179 : Params → Obj := fun P => Obj.mk Value.none none (Data.fields #[]) #[]
noncomputable def hd.o_180 : Params → Obj := fun P => Obj.mk (Value.type "tuple") none (Data.seq #[Value.str (Str.ofString "self") 356, Value.str (Str.ofString "begin") 357, Value.str (Str.ofString "sign") 358]) #[]
noncomputable def hd.o_181 : Params → Obj := fun P => Obj.mk (Value.type "tuple") none (Data.seq #[]) #[]
noncomputable def hd.o_182 : Params → Obj := fun P => Obj.mk Value.none none (Data.func (FuncData.mk (Str.ofString "token") (Str.ofString "FlatScanner.token") (fA (subA (stA 9) 6)) (FuncBody.stmts (fB (subA (stA 9) 6))) (fS (subA (stA 9) 6)) 0 [] Value.none Value.none Value.none Value.none none Value.none Value.none 0)) #[]
noncomputable def hd.o_183 : Params → Obj := fun P => Obj.mk (Value.type "code") none (Data.fields #[Value.str (Str.ofString "token") 353, Value.str (Str.ofString "FlatScanner.token") 354, Value.str (Str.ofString "/claim/cut.py") 355, Value.int 74 0, Value.int 1 0, Value.int 0 0, Value.int 0 0, Value.int 3 0, Value.ref 133, Value.bool true, Value.int 181 0, Value.ref 134, Value.none, Value.ref 135, Value.ref 136, Value.ref 137, Value.int 359 0, Value.int 74 0, Value.str (Str.ofString "/claim/cut.py") 360]) #[]
noncomputable def hd.o_184 : Params → Obj := fun P => Obj.mk (Value.type "function") none (Data.func (FuncData.mk (Str.ofString "token") (Str.ofString "FlatScanner.token") (fA (subA (stA 9) 6)) (FuncBody.stmts (fB (subA (stA 9) 6))) (fS (subA (stA 9) 6)) 3 [] Value.none Value.none Value.none (Value.str (Str.ofString "fdsolve.flat") 278) none (Value.ref 138) Value.none 0)) #[]
noncomputable def hd.o_185 : Params → Obj := fun P => Obj.mk (Value.type "tuple") none (Data.seq #[Value.str (Str.ofString "spot") 362, Value.str (Str.ofString "text") 363]) #[]
noncomputable def hd.o_186 : Params → Obj := fun P => Obj.mk (Value.type "dict") none (Data.dict #[DictEntry.mk (PyData.keyHash P (Str.ofString "__module__")) (Value.str (Str.ofString "__module__") 295) (Value.str (Str.ofString "fdsolve.flat") 278), DictEntry.mk (PyData.keyHash P (Str.ofString "__firstlineno__")) (Value.str (Str.ofString "__firstlineno__") 299) (Value.int 25 298), DictEntry.mk (PyData.keyHash P (Str.ofString "__init__")) (Value.str (Str.ofString "__init__") 307) (Value.ref 97), DictEntry.mk (PyData.keyHash P (Str.ofString "sign")) (Value.str (Str.ofString "sign") 314) (Value.ref 104), DictEntry.mk (PyData.keyHash P (Str.ofString "skip")) (Value.str (Str.ofString "skip") 322) (Value.ref 111), DictEntry.mk (PyData.keyHash P (Str.ofString "run_of")) (Value.str (Str.ofString "run_of") 332) (Value.ref 118), DictEntry.mk (PyData.keyHash P (Str.ofString "quotation")) (Value.str (Str.ofString "quotation") 342) (Value.ref 125), DictEntry.mk (PyData.keyHash P (Str.ofString "number")) (Value.str (Str.ofString "number") 352) (Value.ref 132), DictEntry.mk (PyData.keyHash P (Str.ofString "token")) (Value.str (Str.ofString "token") 361) (Value.ref 139), DictEntry.mk (PyData.keyHash P (Str.ofString "__static_attributes__")) (Value.str (Str.ofString "__static_attributes__") 364) (Value.ref 140), DictEntry.mk (PyData.keyHash P (Str.ofString "__dict__")) (Value.str (Str.ofString "__dict__") 366) (Value.ref 143), DictEntry.mk (PyData.keyHash P (Str.ofString "__weakref__")) (Value.str (Str.ofString "__weakref__") 368) (Value.ref 144), DictEntry.mk (PyData.keyHash P (Str.ofString "__doc__")) (Value.str (Str.ofString "__doc__") 369) Value.none] 4) #[]
noncomputable def hd.o_187 : Params → Obj := fun P => Obj.mk (Value.type "type") none (Data.cls (ClassData.mk (Str.ofString "FlatScanner") [Value.type "object"] [Value.ref 142, Value.type "object"] 141 (Str.ofString "FlatScanner") true [] [] false none false)) #[none, none, some (Value.str (Str.ofString "FlatScanner") 288), some (Value.str (Str.ofString "FlatScanner") 296), some (Value.builtin "object.__new__"), some (Value.bool true)]
noncomputable def hd.o_188 : Params → Obj := fun P => Obj.mk (Value.type "getset_descriptor") none (Data.fields #[Value.str (Str.ofString "__dict__") 365, Value.ref 142, Value.builtin "function.__dict__", Value.builtin "function.__dict__#set"]) #[]
noncomputable def hd.o_189 : Params → Obj := fun P => Obj.mk (Value.type "getset_descriptor") none (Data.fields #[Value.str (Str.ofString "__weakref__") 367, Value.ref 142, Value.builtin "ExceptionGroup.__weakref__", Value.none]) #[]
noncomputable def hd.o_190 : Params → Obj := fun P => Obj.mk (Value.type "super") none (Data.fields #[Value.ref 142, Value.ref 142, Value.ref 142]) #[]
noncomputable def hd.o_191 : Params → Obj := fun P => Obj.mk (Value.type "builtin_function_or_method") none (Data.fields #[Value.builtin "object.__init_subclass__", Value.ref 142]) #[]
noncomputable def hd.o_192 : Params → Obj := fun P => Obj.mk (Value.type "dict") none (Data.dict #[DictEntry.mk (PyData.keyHash P (Str.ofString "__name__")) (Value.str (Str.ofString "__name__") 165) (Value.str (Str.ofString "law_nz0006_01") 372), DictEntry.mk (PyData.keyHash P (Str.ofString "__doc__")) (Value.str (Str.ofString "__doc__") 166) Value.none, DictEntry.mk (PyData.keyHash P (Str.ofString "__package__")) (Value.str (Str.ofString "__package__") 167) Value.none, DictEntry.mk (PyData.keyHash P (Str.ofString "__loader__")) (Value.str (Str.ofString "__loader__") 168) (Value.builtin "__main__.__loader__#opaque"), DictEntry.mk (PyData.keyHash P (Str.ofString "__spec__")) (Value.str (Str.ofString "__spec__") 169) Value.none, DictEntry.mk (PyData.keyHash P (Str.ofString "__annotations__")) (Value.str (Str.ofString "__annotations__") 170) (Value.ref 6), DictEntry.mk (PyData.keyHash P (Str.ofString "__builtins__")) (Value.str (Str.ofString "__builtins__") 171) (Value.ref 4), DictEntry.mk (PyData.keyHash P (Str.ofString "__file__")) (Value.str (Str.ofString "__file__") 173) (Value.str (Str.ofString "/claim/cut.py") 172), DictEntry.mk (PyData.keyHash P (Str.ofString "__cached__")) (Value.str (Str.ofString "__cached__") 174) Value.none, DictEntry.mk (PyData.keyHash P (Str.ofString "FdError")) (Value.str (Str.ofString "FdError") 226) (Value.ref 40), DictEntry.mk (PyData.keyHash P (Str.ofString "SpotFault")) (Value.str (Str.ofString "SpotFault") 261) (Value.ref 69), DictEntry.mk (PyData.keyHash P (Str.ofString "TextFault")) (Value.str (Str.ofString "TextFault") 277) (Value.ref 81), DictEntry.mk (PyData.keyHash P (Str.ofString "DIGITS")) (Value.str (Str.ofString "DIGITS") 281) (Value.str (Str.ofString "0123456789") 280), DictEntry.mk (PyData.keyHash P (Str.ofString "LETTERS")) (Value.str (Str.ofString "LETTERS") 283) (Value.str (Str.ofString "abcdefghijklmnopqrstuvwxyzABCDEFGHIJKLMNOPQRSTUVWXYZ_") 282), DictEntry.mk (PyData.keyHash P (Str.ofString "SIGNS")) (Value.str (Str.ofString "SIGNS") 285) (Value.str (Str.ofString "()[]{},;:") 284), DictEntry.mk (PyData.keyHash P (Str.ofString "MOST_DIGITS")) (Value.str (Str.ofString "MOST_DIGITS") 287) (Value.int 1000 286), DictEntry.mk (PyData.keyHash P (Str.ofString "FlatScanner")) (Value.str (Str.ofString "FlatScanner") 371) (Value.ref 142), DictEntry.mk (PyData.keyHash P (Str.ofString "_law_good")) (Value.str (Str.ofString "_law_good") 398) (Value.ref 147), DictEntry.mk (PyData.keyHash P (Str.ofString "_law_odd")) (Value.str (Str.ofString "_law_odd") 407) (Value.ref 148), DictEntry.mk (PyData.keyHash P (Str.ofString "_law_text")) (Value.str (Str.ofString "_law_text") 418) (Value.ref 155), DictEntry.mk (PyData.keyHash P (Str.ofString "_law_sort")) (Value.str (Str.ofString "_law_sort") 425) (Value.ref 162), DictEntry.mk (PyData.keyHash P (Str.ofString "_law_worth")) (Value.str (Str.ofString "_law_worth") 434) (Value.ref 169), DictEntry.mk (PyData.keyHash P (Str.ofString "_law_leave")) (Value.str (Str.ofString "_law_leave") 443) (Value.ref 176), DictEntry.mk (PyData.keyHash P (Str.ofString "_law_inside")) (Value.str (Str.ofString "_law_inside") 453) (Value.ref 183), DictEntry.mk (PyData.keyHash P (Str.ofString "_law_outside")) (Value.str (Str.ofString "_law_outside") 463) (Value.ref 190), DictEntry.mk (PyData.keyHash P (Str.ofString "_law_machine")) (Value.str (Str.ofString "_law_machine") 474) (Value.ref 197), DictEntry.mk (PyData.keyHash P (Str.ofString "law")) (Value.str (Str.ofString "law") 489) (Value.ref 204)] 27) #[]
noncomputable def hd.o_193 : Params → Obj := fun P => Obj.mk Value.none none (Data.fields #[Value.int 2 0, Value.int 0 0, Value.ref 21, Value.int 10 0, Value.int 0 0, Value.ref 50, Value.int 18 0, Value.int 0 0, Value.ref 77, Value.int 25 0, Value.int 0 0, Value.ref 89, Value.int 95 0, Value.int 0 0, Value.ref 154, Value.int 102 0, Value.int 0 0, Value.ref 161, Value.int 112 0, Value.int 0 0, Value.ref 168, Value.int 118 0, Value.int 0 0, Value.ref 175, Value.int 130 0, Value.int 0 0, Value.ref 182, Value.int 154 0, Value.int 0 0, Value.ref 189, Value.int 165 0, Value.int 0 0, Value.ref 196, Value.int 182 0, Value.int 0 0, Value.ref 203]) #[]
noncomputable def hd.o_194 : Params → Obj := fun P => Obj.mk (Value.type "list") none (Data.seq #[Value.str (Str.ofString " ") 374, Value.str (Str.ofString "\n") 375, Value.str (Str.ofString "\t \x0d") 376, Value.str (Str.ofString "% x\" y\n") 377, Value.str (Str.ofString "..") 378, Value.str (Str.ofString "(") 379, Value.str (Str.ofString ")") 380, Value.str (Str.ofString "[") 381, Value.str (Str.ofString "]") 382, Value.str (Str.ofString "{") 383, Value.str (Str.ofString "}") 384, Value.str (Str.ofString ",") 385, Value.str (Str.ofString ";") 386, Value.str (Str.ofString ":") 387, Value.str (Str.ofString "a") 388, Value.str (Str.ofString "X_1") 389, Value.str (Str.ofString "var") 390, Value.str (Str.ofString "0") 391, Value.str (Str.ofString "07") 392, Value.str (Str.ofString "-5") 393, Value.str (Str.ofString "12") 394, Value.str (Str.ofString "_") 395, Value.str (Str.ofString "\"p q\"") 396, Value.str (Str.ofString "\"\\n\\\"\\\\%\"") 397]) #[]
noncomputable def hd.o_195 : Params → Obj := fun P => Obj.mk (Value.type "list") none (Data.seq #[Value.str (Str.ofString "\"") 399, Value.str (Str.ofString "\\") 400, Value.str (Str.ofString ".") 401, Value.str (Str.ofString "-") 402, Value.str (Str.ofString "$") 403, Value.str (Str.ofString "%") 404, Value.str (Str.ofString "\"\\x\"") 405, Value.str (Str.ofString "\"a\nb\"") 406]) #[]
noncomputable def hd.o_196 : Params → Obj := fun P => Obj.mk (Value.type "tuple") none (Data.seq #[]) #[]
noncomputable def hd.o_197 : Params → Obj := fun P => Obj.mk Value.none none (Data.fields #[]) #[]
noncomputable def hd.o_198 : Params → Obj := fun P => Obj.mk (Value.type "tuple") none (Data.seq #[Value.str (Str.ofString "script") 411, Value.str (Str.ofString "cells") 412, Value.str (Str.ofString "pieces") 413, Value.str (Str.ofString "cell") 414, Value.str (Str.ofString "some") 415]) #[]
noncomputable def hd.o_199 : Params → Obj := fun P => Obj.mk (Value.type "tuple") none (Data.seq #[]) #[]
noncomputable def hd.o_200 : Params → Obj := fun P => Obj.mk Value.none none (Data.func (FuncData.mk (Str.ofString "_law_text") (Str.ofString "_law_text") (fA (stA 13)) (FuncBody.stmts (fB (stA 13))) (fS (stA 13)) 0 [] Value.none Value.none Value.none Value.none none Value.none Value.none 0)) #[]
noncomputable def hd.o_201 : Params → Obj := fun P => Obj.mk (Value.type "code") none (Data.fields #[Value.str (Str.ofString "_law_text") 408, Value.str (Str.ofString "_law_text") 409, Value.str (Str.ofString "/claim/cut.py") 410, Value.int 95 0, Value.int 1 0, Value.int 0 0, Value.int 0 0, Value.int 3 0, Value.ref 149, Value.bool true, Value.int 181 0, Value.ref 150, Value.none, Value.ref 151, Value.ref 152, Value.ref 153, Value.int 416 0, Value.int 95 0, Value.str (Str.ofString "/claim/cut.py") 417]) #[]
noncomputable def hd.o_202 : Params → Obj := fun P => Obj.mk (Value.type "function") none (Data.func (FuncData.mk (Str.ofString "_law_text") (Str.ofString "_law_text") (fA (stA 13)) (FuncBody.stmts (fB (stA 13))) (fS (stA 13)) 3 [] Value.none Value.none Value.none (Value.str (Str.ofString "law_nz0006_01") 372) none (Value.ref 154) Value.none 0)) #[]
noncomputable def hd.o_203 : Params → Obj := fun P => Obj.mk (Value.type "tuple") none (Data.seq #[]) #[]
noncomputable def hd.o_204 : Params → Obj := fun P => Obj.mk Value.none none (Data.fields #[]) #[]
noncomputable def hd.o_205 : Params → Obj := fun P => Obj.mk (Value.type "tuple") none (Data.seq #[Value.str (Str.ofString "sign") 422]) #[]
noncomputable def hd.o_206 : Params → Obj := fun P => Obj.mk (Value.type "tuple") none (Data.seq #[]) #[]
noncomputable def hd.o_207 : Params → Obj := fun P => Obj.mk Value.none none (Data.func (FuncData.mk (Str.ofString "_law_sort") (Str.ofString "_law_sort") (fA (stA 14)) (FuncBody.stmts (fB (stA 14))) (fS (stA 14)) 0 [] Value.none Value.none Value.none Value.none none Value.none Value.none 0)) #[]
noncomputable def hd.o_208 : Params → Obj := fun P => Obj.mk (Value.type "code") none (Data.fields #[Value.str (Str.ofString "_law_sort") 419, Value.str (Str.ofString "_law_sort") 420, Value.str (Str.ofString "/claim/cut.py") 421, Value.int 102 0, Value.int 1 0, Value.int 0 0, Value.int 0 0, Value.int 3 0, Value.ref 156, Value.bool true, Value.int 181 0, Value.ref 157, Value.none, Value.ref 158, Value.ref 159, Value.ref 160, Value.int 423 0, Value.int 102 0, Value.str (Str.ofString "/claim/cut.py") 424]) #[]
noncomputable def hd.o_209 : Params → Obj := fun P => Obj.mk (Value.type "function") none (Data.func (FuncData.mk (Str.ofString "_law_sort") (Str.ofString "_law_sort") (fA (stA 14)) (FuncBody.stmts (fB (stA 14))) (fS (stA 14)) 3 [] Value.none Value.none Value.none (Value.str (Str.ofString "law_nz0006_01") 372) none (Value.ref 161) Value.none 0)) #[]
noncomputable def hd.o_210 : Params → Obj := fun P => Obj.mk (Value.type "tuple") none (Data.seq #[]) #[]
noncomputable def hd.o_211 : Params → Obj := fun P => Obj.mk Value.none none (Data.fields #[]) #[]
noncomputable def hd.o_212 : Params → Obj := fun P => Obj.mk (Value.type "tuple") none (Data.seq #[Value.str (Str.ofString "signs") 429, Value.str (Str.ofString "total") 430, Value.str (Str.ofString "sign") 431]) #[]
noncomputable def hd.o_213 : Params → Obj := fun P => Obj.mk (Value.type "tuple") none (Data.seq #[]) #[]
noncomputable def hd.o_214 : Params → Obj := fun P => Obj.mk Value.none none (Data.func (FuncData.mk (Str.ofString "_law_worth") (Str.ofString "_law_worth") (fA (stA 15)) (FuncBody.stmts (fB (stA 15))) (fS (stA 15)) 0 [] Value.none Value.none Value.none Value.none none Value.none Value.none 0)) #[]
noncomputable def hd.o_215 : Params → Obj := fun P => Obj.mk (Value.type "code") none (Data.fields #[Value.str (Str.ofString "_law_worth") 426, Value.str (Str.ofString "_law_worth") 427, Value.str (Str.ofString "/claim/cut.py") 428, Value.int 112 0, Value.int 1 0, Value.int 0 0, Value.int 0 0, Value.int 3 0, Value.ref 163, Value.bool true, Value.int 181 0, Value.ref 164, Value.none, Value.ref 165, Value.ref 166, Value.ref 167, Value.int 432 0, Value.int 112 0, Value.str (Str.ofString "/claim/cut.py") 433]) #[]
noncomputable def hd.o_216 : Params → Obj := fun P => Obj.mk (Value.type "function") none (Data.func (FuncData.mk (Str.ofString "_law_worth") (Str.ofString "_law_worth") (fA (stA 15)) (FuncBody.stmts (fB (stA 15))) (fS (stA 15)) 3 [] Value.none Value.none Value.none (Value.str (Str.ofString "law_nz0006_01") 372) none (Value.ref 168) Value.none 0)) #[]
noncomputable def hd.o_217 : Params → Obj := fun P => Obj.mk (Value.type "tuple") none (Data.seq #[]) #[]
noncomputable def hd.o_218 : Params → Obj := fun P => Obj.mk Value.none none (Data.fields #[]) #[]
noncomputable def hd.o_219 : Params → Obj := fun P => Obj.mk (Value.type "tuple") none (Data.seq #[Value.str (Str.ofString "machine") 438, Value.str (Str.ofString "sort") 439, Value.str (Str.ofString "mode") 440]) #[]
noncomputable def hd.o_220 : Params → Obj := fun P => Obj.mk (Value.type "tuple") none (Data.seq #[]) #[]
noncomputable def hd.o_221 : Params → Obj := fun P => Obj.mk Value.none none (Data.func (FuncData.mk (Str.ofString "_law_leave") (Str.ofString "_law_leave") (fA (stA 16)) (FuncBody.stmts (fB (stA 16))) (fS (stA 16)) 0 [] Value.none Value.none Value.none Value.none none Value.none Value.none 0)) #[]
noncomputable def hd.o_222 : Params → Obj := fun P => Obj.mk (Value.type "code") none (Data.fields #[Value.str (Str.ofString "_law_leave") 435, Value.str (Str.ofString "_law_leave") 436, Value.str (Str.ofString "/claim/cut.py") 437, Value.int 118 0, Value.int 2 0, Value.int 0 0, Value.int 0 0, Value.int 3 0, Value.ref 170, Value.bool true, Value.int 181 0, Value.ref 171, Value.none, Value.ref 172, Value.ref 173, Value.ref 174, Value.int 441 0, Value.int 118 0, Value.str (Str.ofString "/claim/cut.py") 442]) #[]
noncomputable def hd.o_223 : Params → Obj := fun P => Obj.mk (Value.type "function") none (Data.func (FuncData.mk (Str.ofString "_law_leave") (Str.ofString "_law_leave") (fA (stA 16)) (FuncBody.stmts (fB (stA 16))) (fS (stA 16)) 3 [] Value.none Value.none Value.none (Value.str (Str.ofString "law_nz0006_01") 372) none (Value.ref 175) Value.none 0)) #[]
noncomputable def hd.o_224 : Params → Obj := fun P => Obj.mk (Value.type "tuple") none (Data.seq #[]) #[]
noncomputable def hd.o_225 : Params → Obj := fun P => Obj.mk Value.none none (Data.fields #[]) #[]
noncomputable def hd.o_226 : Params → Obj := fun P => Obj.mk (Value.type "tuple") none (Data.seq #[Value.str (Str.ofString "machine") 447, Value.str (Str.ofString "sign") 448, Value.str (Str.ofString "spot") 449, Value.str (Str.ofString "mode") 450]) #[]
noncomputable def hd.o_227 : Params → Obj := fun P => Obj.mk (Value.type "tuple") none (Data.seq #[]) #[]
noncomputable def hd.o_228 : Params → Obj := fun P => Obj.mk Value.none none (Data.func (FuncData.mk (Str.ofString "_law_inside") (Str.ofString "_law_inside") (fA (stA 17)) (FuncBody.stmts (fB (stA 17))) (fS (stA 17)) 0 [] Value.none Value.none Value.none Value.none none Value.none Value.none 0)) #[]
noncomputable def hd.o_229 : Params → Obj := fun P => Obj.mk (Value.type "code") none (Data.fields #[Value.str (Str.ofString "_law_inside") 444, Value.str (Str.ofString "_law_inside") 445, Value.str (Str.ofString "/claim/cut.py") 446, Value.int 130 0, Value.int 3 0, Value.int 0 0, Value.int 0 0, Value.int 3 0, Value.ref 177, Value.bool true, Value.int 181 0, Value.ref 178, Value.none, Value.ref 179, Value.ref 180, Value.ref 181, Value.int 451 0, Value.int 130 0, Value.str (Str.ofString "/claim/cut.py") 452]) #[]
noncomputable def hd.o_230 : Params → Obj := fun P => Obj.mk (Value.type "function") none (Data.func (FuncData.mk (Str.ofString "_law_inside") (Str.ofString "_law_inside") (fA (stA 17)) (FuncBody.stmts (fB (stA 17))) (fS (stA 17)) 3 [] Value.none Value.none Value.none (Value.str (Str.ofString "law_nz0006_01") 372) none (Value.ref 182) Value.none 0)) #[]
noncomputable def hd.o_231 : Params → Obj := fun P => Obj.mk (Value.type "tuple") none (Data.seq #[]) #[]
noncomputable def hd.o_232 : Params → Obj := fun P => Obj.mk Value.none none (Data.fields #[]) #[]
noncomputable def hd.o_233 : Params → Obj := fun P => Obj.mk (Value.type "tuple") none (Data.seq #[Value.str (Str.ofString "machine") 457, Value.str (Str.ofString "sign") 458, Value.str (Str.ofString "sort") 459, Value.str (Str.ofString "spot") 460]) #[]
noncomputable def hd.o_234 : Params → Obj := fun P => Obj.mk (Value.type "tuple") none (Data.seq #[]) #[]
noncomputable def hd.o_235 : Params → Obj := fun P => Obj.mk Value.none none (Data.func (FuncData.mk (Str.ofString "_law_outside") (Str.ofString "_law_outside") (fA (stA 18)) (FuncBody.stmts (fB (stA 18))) (fS (stA 18)) 0 [] Value.none Value.none Value.none Value.none none Value.none Value.none 0)) #[]
noncomputable def hd.o_236 : Params → Obj := fun P => Obj.mk (Value.type "code") none (Data.fields #[Value.str (Str.ofString "_law_outside") 454, Value.str (Str.ofString "_law_outside") 455, Value.str (Str.ofString "/claim/cut.py") 456, Value.int 154 0, Value.int 4 0, Value.int 0 0, Value.int 0 0, Value.int 3 0, Value.ref 184, Value.bool true, Value.int 181 0, Value.ref 185, Value.none, Value.ref 186, Value.ref 187, Value.ref 188, Value.int 461 0, Value.int 154 0, Value.str (Str.ofString "/claim/cut.py") 462]) #[]
noncomputable def hd.o_237 : Params → Obj := fun P => Obj.mk (Value.type "function") none (Data.func (FuncData.mk (Str.ofString "_law_outside") (Str.ofString "_law_outside") (fA (stA 18)) (FuncBody.stmts (fB (stA 18))) (fS (stA 18)) 3 [] Value.none Value.none Value.none (Value.str (Str.ofString "law_nz0006_01") 372) none (Value.ref 189) Value.none 0)) #[]
noncomputable def hd.o_238 : Params → Obj := fun P => Obj.mk (Value.type "tuple") none (Data.seq #[]) #[]
noncomputable def hd.o_239 : Params → Obj := fun P => Obj.mk Value.none none (Data.fields #[]) #[]
noncomputable def hd.o_240 : Params → Obj := fun P => Obj.mk (Value.type "tuple") none (Data.seq #[Value.str (Str.ofString "text") 467, Value.str (Str.ofString "machine") 468, Value.str (Str.ofString "spot") 469, Value.str (Str.ofString "sign") 470, Value.str (Str.ofString "sort") 471]) #[]
noncomputable def hd.o_241 : Params → Obj := fun P => Obj.mk (Value.type "tuple") none (Data.seq #[]) #[]
noncomputable def hd.o_242 : Params → Obj := fun P => Obj.mk Value.none none (Data.func (FuncData.mk (Str.ofString "_law_machine") (Str.ofString "_law_machine") (fA (stA 19)) (FuncBody.stmts (fB (stA 19))) (fS (stA 19)) 0 [] Value.none Value.none Value.none Value.none none Value.none Value.none 0)) #[]
noncomputable def hd.o_243 : Params → Obj := fun P => Obj.mk (Value.type "code") none (Data.fields #[Value.str (Str.ofString "_law_machine") 464, Value.str (Str.ofString "_law_machine") 465, Value.str (Str.ofString "/claim/cut.py") 466, Value.int 165 0, Value.int 1 0, Value.int 0 0, Value.int 0 0, Value.int 3 0, Value.ref 191, Value.bool true, Value.int 181 0, Value.ref 192, Value.none, Value.ref 193, Value.ref 194, Value.ref 195, Value.int 472 0, Value.int 165 0, Value.str (Str.ofString "/claim/cut.py") 473]) #[]
noncomputable def hd.o_244 : Params → Obj := fun P => Obj.mk (Value.type "function") none (Data.func (FuncData.mk (Str.ofString "_law_machine") (Str.ofString "_law_machine") (fA (stA 19)) (FuncBody.stmts (fB (stA 19))) (fS (stA 19)) 3 [] Value.none Value.none Value.none (Value.str (Str.ofString "law_nz0006_01") 372) none (Value.ref 196) Value.none 0)) #[]
noncomputable def hd.o_245 : Params → Obj := fun P => Obj.mk (Value.type "tuple") none (Data.seq #[]) #[]
noncomputable def hd.o_246 : Params → Obj := fun P => Obj.mk Value.none none (Data.fields #[]) #[]
noncomputable def hd.o_247 : Params → Obj := fun P => Obj.mk (Value.type "tuple") none (Data.seq #[Value.str (Str.ofString "script") 478, Value.str (Str.ofString "text") 479, Value.str (Str.ofString "due") 480, Value.str (Str.ofString "fault") 481, Value.str (Str.ofString "scanner") 482, Value.str (Str.ofString "found") 483, Value.str (Str.ofString "spot") 484, Value.str (Str.ofString "lap") 485, Value.str (Str.ofString "told") 486]) #[]
noncomputable def hd.o_248 : Params → Obj := fun P => Obj.mk (Value.type "tuple") none (Data.seq #[]) #[]
noncomputable def hd.o_249 : Params → Obj := fun P => Obj.mk Value.none none (Data.func (FuncData.mk (Str.ofString "law") (Str.ofString "law") (fA (stA 20)) (FuncBody.stmts (fB (stA 20))) (fS (stA 20)) 0 [] Value.none Value.none Value.none Value.none none Value.none Value.none 0)) #[]
noncomputable def hd.o_250 : Params → Obj := fun P => Obj.mk (Value.type "code") none (Data.fields #[Value.str (Str.ofString "law") 475, Value.str (Str.ofString "law") 476, Value.str (Str.ofString "/claim/cut.py") 477, Value.int 182 0, Value.int 1 0, Value.int 0 0, Value.int 0 0, Value.int 3 0, Value.ref 198, Value.bool true, Value.int 181 0, Value.ref 199, Value.none, Value.ref 200, Value.ref 201, Value.ref 202, Value.int 487 0, Value.int 182 0, Value.str (Str.ofString "/claim/cut.py") 488]) #[]
noncomputable def hd.o_251 : Params → Obj := fun P => Obj.mk (Value.type "function") none (Data.func (FuncData.mk (Str.ofString "law") (Str.ofString "law") (fA (stA 20)) (FuncBody.stmts (fB (stA 20))) (fS (stA 20)) 3 [] Value.none Value.none Value.none (Value.str (Str.ofString "law_nz0006_01") 372) none (Value.ref 203) Value.none 0)) #[]
noncomputable def hd.env_41 : Env := Env.mk (Module.scope (Program.main pg)) mainNs mainNs [] Str.empty none (Value.ref 13) (some 14) 0
noncomputable def hd.heap_46 : Params → Heap := fun P => Heap.mk (Array.mk [boot_o_0 P, boot_o_1 P, boot_o_2 P, boot_o_3 P, boot_o_4 P, boot_o_5 P, boot_o_6 P, boot_o_7 P, boot_o_8 P, boot_o_9 P, boot_o_10 P, hd.o_43 P, hd.o_44 P, hd.o_45 P, hd.o_46 P]) (Life.mk [] [] [] 0 [] [] false #[] [] 0 false false false 0 [2000, 10, 10] false 0 true [] [] 0 false)
noncomputable def hd.tree_47 : Params → BT := fun P => BT.node (boot_o_0 P) (BT.node (boot_o_1 P) (BT.node (boot_o_3 P) (BT.node (boot_o_7 P) BT.nil BT.nil) (BT.node (hd.o_43 P) BT.nil BT.nil)) (BT.node (boot_o_5 P) (BT.node (boot_o_9 P) BT.nil BT.nil) (BT.node (hd.o_45 P) BT.nil BT.nil))) (BT.node (boot_o_2 P) (BT.node (boot_o_4 P) (BT.node (boot_o_8 P) BT.nil BT.nil) (BT.node (hd.o_44 P) BT.nil BT.nil)) (BT.node (boot_o_6 P) (BT.node (boot_o_10 P) BT.nil BT.nil) (BT.node (hd.o_46 P) BT.nil BT.nil)))
noncomputable def hd.tree_80 : Params → BT := fun P => BT.node (boot_o_0 P) (BT.node (boot_o_1 P) (BT.node (hd.o_50 P) (BT.node (boot_o_7 P) (BT.node (hd.o_52 P) (BT.node (hd.o_68 P) BT.nil BT.nil) BT.nil) (BT.node (hd.o_60 P) (BT.node (hd.o_76 P) BT.nil BT.nil) BT.nil)) (BT.node (hd.o_43 P) (BT.node (hd.o_56 P) (BT.node (hd.o_72 P) BT.nil BT.nil) BT.nil) (BT.node (hd.o_64 P) (BT.node (hd.o_80 P) BT.nil BT.nil) BT.nil))) (BT.node (boot_o_5 P) (BT.node (boot_o_9 P) (BT.node (hd.o_54 P) (BT.node (hd.o_70 P) BT.nil BT.nil) BT.nil) (BT.node (hd.o_62 P) (BT.node (hd.o_78 P) BT.nil BT.nil) BT.nil)) (BT.node (hd.o_45 P) (BT.node (hd.o_58 P) (BT.node (hd.o_74 P) BT.nil BT.nil) BT.nil) (BT.node (hd.o_66 P) BT.nil BT.nil)))) (BT.node (hd.o_49 P) (BT.node (boot_o_4 P) (BT.node (boot_o_8 P) (BT.node (hd.o_53 P) (BT.node (hd.o_69 P) BT.nil BT.nil) BT.nil) (BT.node (hd.o_61 P) (BT.node (hd.o_77 P) BT.nil BT.nil) BT.nil)) (BT.node (hd.o_51 P) (BT.node (hd.o_57 P) (BT.node (hd.o_73 P) BT.nil BT.nil) BT.nil) (BT.node (hd.o_65 P) BT.nil BT.nil))) (BT.node (boot_o_6 P) (BT.node (boot_o_10 P) (BT.node (hd.o_55 P) (BT.node (hd.o_71 P) BT.nil BT.nil) BT.nil) (BT.node (hd.o_63 P) (BT.node (hd.o_79 P) BT.nil BT.nil) BT.nil)) (BT.node (hd.o_46 P) (BT.node (hd.o_59 P) (BT.node (hd.o_75 P) BT.nil BT.nil) BT.nil) (BT.node (hd.o_67 P) BT.nil BT.nil))))
noncomputable def hd.tree_111 : Params → BT := fun P => BT.node (boot_o_0 P) (BT.node (boot_o_1 P) (BT.node (hd.o_81 P) (BT.node (boot_o_7 P) (BT.node (hd.o_52 P) (BT.node (hd.o_68 P) (BT.node (hd.o_103 P) BT.nil BT.nil) BT.nil) (BT.node (hd.o_87 P) BT.nil BT.nil)) (BT.node (hd.o_60 P) (BT.node (hd.o_76 P) (BT.node (hd.o_111 P) BT.nil BT.nil) BT.nil) (BT.node (hd.o_95 P) BT.nil BT.nil))) (BT.node (hd.o_43 P) (BT.node (hd.o_56 P) (BT.node (hd.o_72 P) (BT.node (hd.o_107 P) BT.nil BT.nil) BT.nil) (BT.node (hd.o_91 P) BT.nil BT.nil)) (BT.node (hd.o_64 P) (BT.node (hd.o_80 P) BT.nil BT.nil) (BT.node (hd.o_99 P) BT.nil BT.nil)))) (BT.node (boot_o_5 P) (BT.node (boot_o_9 P) (BT.node (hd.o_54 P) (BT.node (hd.o_70 P) (BT.node (hd.o_105 P) BT.nil BT.nil) BT.nil) (BT.node (hd.o_89 P) BT.nil BT.nil)) (BT.node (hd.o_62 P) (BT.node (hd.o_78 P) BT.nil BT.nil) (BT.node (hd.o_97 P) BT.nil BT.nil))) (BT.node (hd.o_45 P) (BT.node (hd.o_58 P) (BT.node (hd.o_74 P) (BT.node (hd.o_109 P) BT.nil BT.nil) BT.nil) (BT.node (hd.o_93 P) BT.nil BT.nil)) (BT.node (hd.o_66 P) (BT.node (hd.o_85 P) BT.nil BT.nil) (BT.node (hd.o_101 P) BT.nil BT.nil))))) (BT.node (hd.o_49 P) (BT.node (boot_o_4 P) (BT.node (boot_o_8 P) (BT.node (hd.o_53 P) (BT.node (hd.o_69 P) (BT.node (hd.o_104 P) BT.nil BT.nil) BT.nil) (BT.node (hd.o_88 P) BT.nil BT.nil)) (BT.node (hd.o_61 P) (BT.node (hd.o_83 P) BT.nil BT.nil) (BT.node (hd.o_96 P) BT.nil BT.nil))) (BT.node (hd.o_82 P) (BT.node (hd.o_57 P) (BT.node (hd.o_73 P) (BT.node (hd.o_108 P) BT.nil BT.nil) BT.nil) (BT.node (hd.o_92 P) BT.nil BT.nil)) (BT.node (hd.o_65 P) (BT.node (hd.o_84 P) BT.nil BT.nil) (BT.node (hd.o_100 P) BT.nil BT.nil)))) (BT.node (boot_o_6 P) (BT.node (boot_o_10 P) (BT.node (hd.o_55 P) (BT.node (hd.o_71 P) (BT.node (hd.o_106 P) BT.nil BT.nil) BT.nil) (BT.node (hd.o_90 P) BT.nil BT.nil)) (BT.node (hd.o_63 P) (BT.node (hd.o_79 P) BT.nil BT.nil) (BT.node (hd.o_98 P) BT.nil BT.nil))) (BT.node (hd.o_46 P) (BT.node (hd.o_59 P) (BT.node (hd.o_75 P) (BT.node (hd.o_110 P) BT.nil BT.nil) BT.nil) (BT.node (hd.o_94 P) BT.nil BT.nil)) (BT.node (hd.o_67 P) (BT.node (hd.o_86 P) BT.nil BT.nil) (BT.node (hd.o_102 P) BT.nil BT.nil)))))
noncomputable def hd.tree_126 : Params → BT := fun P => BT.node (boot_o_0 P) (BT.node (boot_o_1 P) (BT.node (hd.o_112 P) (BT.node (boot_o_7 P) (BT.node (hd.o_52 P) (BT.node (hd.o_68 P) (BT.node (hd.o_103 P) BT.nil BT.nil) BT.nil) (BT.node (hd.o_87 P) (BT.node (hd.o_122 P) BT.nil BT.nil) BT.nil)) (BT.node (hd.o_60 P) (BT.node (hd.o_76 P) (BT.node (hd.o_111 P) BT.nil BT.nil) BT.nil) (BT.node (hd.o_95 P) BT.nil BT.nil))) (BT.node (hd.o_43 P) (BT.node (hd.o_56 P) (BT.node (hd.o_72 P) (BT.node (hd.o_107 P) BT.nil BT.nil) BT.nil) (BT.node (hd.o_91 P) (BT.node (hd.o_126 P) BT.nil BT.nil) BT.nil)) (BT.node (hd.o_64 P) (BT.node (hd.o_80 P) (BT.node (hd.o_118 P) BT.nil BT.nil) BT.nil) (BT.node (hd.o_99 P) BT.nil BT.nil)))) (BT.node (boot_o_5 P) (BT.node (boot_o_9 P) (BT.node (hd.o_54 P) (BT.node (hd.o_70 P) (BT.node (hd.o_105 P) BT.nil BT.nil) BT.nil) (BT.node (hd.o_89 P) (BT.node (hd.o_124 P) BT.nil BT.nil) BT.nil)) (BT.node (hd.o_62 P) (BT.node (hd.o_78 P) (BT.node (hd.o_116 P) BT.nil BT.nil) BT.nil) (BT.node (hd.o_97 P) BT.nil BT.nil))) (BT.node (hd.o_45 P) (BT.node (hd.o_58 P) (BT.node (hd.o_74 P) (BT.node (hd.o_114 P) BT.nil BT.nil) BT.nil) (BT.node (hd.o_93 P) BT.nil BT.nil)) (BT.node (hd.o_66 P) (BT.node (hd.o_85 P) (BT.node (hd.o_120 P) BT.nil BT.nil) BT.nil) (BT.node (hd.o_101 P) BT.nil BT.nil))))) (BT.node (hd.o_49 P) (BT.node (boot_o_4 P) (BT.node (boot_o_8 P) (BT.node (hd.o_53 P) (BT.node (hd.o_69 P) (BT.node (hd.o_104 P) BT.nil BT.nil) BT.nil) (BT.node (hd.o_88 P) (BT.node (hd.o_123 P) BT.nil BT.nil) BT.nil)) (BT.node (hd.o_61 P) (BT.node (hd.o_83 P) (BT.node (hd.o_115 P) BT.nil BT.nil) BT.nil) (BT.node (hd.o_96 P) BT.nil BT.nil))) (BT.node (hd.o_113 P) (BT.node (hd.o_57 P) (BT.node (hd.o_73 P) (BT.node (hd.o_108 P) BT.nil BT.nil) BT.nil) (BT.node (hd.o_92 P) BT.nil BT.nil)) (BT.node (hd.o_65 P) (BT.node (hd.o_84 P) (BT.node (hd.o_119 P) BT.nil BT.nil) BT.nil) (BT.node (hd.o_100 P) BT.nil BT.nil)))) (BT.node (boot_o_6 P) (BT.node (boot_o_10 P) (BT.node (hd.o_55 P) (BT.node (hd.o_71 P) (BT.node (hd.o_106 P) BT.nil BT.nil) BT.nil) (BT.node (hd.o_90 P) (BT.node (hd.o_125 P) BT.nil BT.nil) BT.nil)) (BT.node (hd.o_63 P) (BT.node (hd.o_79 P) (BT.node (hd.o_117 P) BT.nil BT.nil) BT.nil) (BT.node (hd.o_98 P) BT.nil BT.nil))) (BT.node (hd.o_46 P) (BT.node (hd.o_59 P) (BT.node (hd.o_75 P) (BT.node (hd.o_110 P) BT.nil BT.nil) BT.nil) (BT.node (hd.o_94 P) BT.nil BT.nil)) (BT.node (hd.o_67 P) (BT.node (hd.o_86 P) (BT.node (hd.o_121 P) BT.nil BT.nil) BT.nil) (BT.node (hd.o_102 P) BT.nil BT.nil)))))
noncomputable def hd.tree_191 : Params → BT := fun P => BT.node (boot_o_0 P) (BT.node (boot_o_1 P) (BT.node (hd.o_127 P) (BT.node (boot_o_7 P) (BT.node (hd.o_52 P) (BT.node (hd.o_68 P) (BT.node (hd.o_103 P) (BT.node (hd.o_172 P) BT.nil BT.nil) BT.nil) (BT.node (hd.o_140 P) BT.nil BT.nil)) (BT.node (hd.o_87 P) (BT.node (hd.o_122 P) (BT.node (hd.o_188 P) BT.nil BT.nil) BT.nil) (BT.node (hd.o_156 P) BT.nil BT.nil))) (BT.node (hd.o_60 P) (BT.node (hd.o_76 P) (BT.node (hd.o_111 P) (BT.node (hd.o_180 P) BT.nil BT.nil) BT.nil) (BT.node (hd.o_148 P) BT.nil BT.nil)) (BT.node (hd.o_95 P) (BT.node (hd.o_132 P) BT.nil BT.nil) (BT.node (hd.o_164 P) BT.nil BT.nil)))) (BT.node (hd.o_43 P) (BT.node (hd.o_56 P) (BT.node (hd.o_72 P) (BT.node (hd.o_107 P) (BT.node (hd.o_176 P) BT.nil BT.nil) BT.nil) (BT.node (hd.o_144 P) BT.nil BT.nil)) (BT.node (hd.o_91 P) (BT.node (hd.o_126 P) BT.nil BT.nil) (BT.node (hd.o_160 P) BT.nil BT.nil))) (BT.node (hd.o_64 P) (BT.node (hd.o_80 P) (BT.node (hd.o_118 P) (BT.node (hd.o_184 P) BT.nil BT.nil) BT.nil) (BT.node (hd.o_152 P) BT.nil BT.nil)) (BT.node (hd.o_99 P) (BT.node (hd.o_136 P) BT.nil BT.nil) (BT.node (hd.o_168 P) BT.nil BT.nil))))) (BT.node (boot_o_5 P) (BT.node (boot_o_9 P) (BT.node (hd.o_54 P) (BT.node (hd.o_70 P) (BT.node (hd.o_105 P) (BT.node (hd.o_174 P) BT.nil BT.nil) BT.nil) (BT.node (hd.o_142 P) BT.nil BT.nil)) (BT.node (hd.o_89 P) (BT.node (hd.o_124 P) (BT.node (hd.o_190 P) BT.nil BT.nil) BT.nil) (BT.node (hd.o_158 P) BT.nil BT.nil))) (BT.node (hd.o_62 P) (BT.node (hd.o_78 P) (BT.node (hd.o_116 P) (BT.node (hd.o_182 P) BT.nil BT.nil) BT.nil) (BT.node (hd.o_150 P) BT.nil BT.nil)) (BT.node (hd.o_97 P) (BT.node (hd.o_134 P) BT.nil BT.nil) (BT.node (hd.o_166 P) BT.nil BT.nil)))) (BT.node (hd.o_45 P) (BT.node (hd.o_58 P) (BT.node (hd.o_74 P) (BT.node (hd.o_114 P) (BT.node (hd.o_178 P) BT.nil BT.nil) BT.nil) (BT.node (hd.o_146 P) BT.nil BT.nil)) (BT.node (hd.o_93 P) (BT.node (hd.o_130 P) BT.nil BT.nil) (BT.node (hd.o_162 P) BT.nil BT.nil))) (BT.node (hd.o_66 P) (BT.node (hd.o_85 P) (BT.node (hd.o_120 P) (BT.node (hd.o_186 P) BT.nil BT.nil) BT.nil) (BT.node (hd.o_154 P) BT.nil BT.nil)) (BT.node (hd.o_101 P) (BT.node (hd.o_138 P) BT.nil BT.nil) (BT.node (hd.o_170 P) BT.nil BT.nil)))))) (BT.node (hd.o_49 P) (BT.node (boot_o_4 P) (BT.node (boot_o_8 P) (BT.node (hd.o_53 P) (BT.node (hd.o_69 P) (BT.node (hd.o_104 P) (BT.node (hd.o_173 P) BT.nil BT.nil) BT.nil) (BT.node (hd.o_141 P) BT.nil BT.nil)) (BT.node (hd.o_88 P) (BT.node (hd.o_123 P) (BT.node (hd.o_189 P) BT.nil BT.nil) BT.nil) (BT.node (hd.o_157 P) BT.nil BT.nil))) (BT.node (hd.o_61 P) (BT.node (hd.o_83 P) (BT.node (hd.o_115 P) (BT.node (hd.o_181 P) BT.nil BT.nil) BT.nil) (BT.node (hd.o_149 P) BT.nil BT.nil)) (BT.node (hd.o_96 P) (BT.node (hd.o_133 P) BT.nil BT.nil) (BT.node (hd.o_165 P) BT.nil BT.nil)))) (BT.node (hd.o_128 P) (BT.node (hd.o_57 P) (BT.node (hd.o_73 P) (BT.node (hd.o_108 P) (BT.node (hd.o_177 P) BT.nil BT.nil) BT.nil) (BT.node (hd.o_145 P) BT.nil BT.nil)) (BT.node (hd.o_92 P) (BT.node (hd.o_129 P) BT.nil BT.nil) (BT.node (hd.o_161 P) BT.nil BT.nil))) (BT.node (hd.o_65 P) (BT.node (hd.o_84 P) (BT.node (hd.o_119 P) (BT.node (hd.o_185 P) BT.nil BT.nil) BT.nil) (BT.node (hd.o_153 P) BT.nil BT.nil)) (BT.node (hd.o_100 P) (BT.node (hd.o_137 P) BT.nil BT.nil) (BT.node (hd.o_169 P) BT.nil BT.nil))))) (BT.node (boot_o_6 P) (BT.node (boot_o_10 P) (BT.node (hd.o_55 P) (BT.node (hd.o_71 P) (BT.node (hd.o_106 P) (BT.node (hd.o_175 P) BT.nil BT.nil) BT.nil) (BT.node (hd.o_143 P) BT.nil BT.nil)) (BT.node (hd.o_90 P) (BT.node (hd.o_125 P) (BT.node (hd.o_191 P) BT.nil BT.nil) BT.nil) (BT.node (hd.o_159 P) BT.nil BT.nil))) (BT.node (hd.o_63 P) (BT.node (hd.o_79 P) (BT.node (hd.o_117 P) (BT.node (hd.o_183 P) BT.nil BT.nil) BT.nil) (BT.node (hd.o_151 P) BT.nil BT.nil)) (BT.node (hd.o_98 P) (BT.node (hd.o_135 P) BT.nil BT.nil) (BT.node (hd.o_167 P) BT.nil BT.nil)))) (BT.node (hd.o_46 P) (BT.node (hd.o_59 P) (BT.node (hd.o_75 P) (BT.node (hd.o_110 P) (BT.node (hd.o_179 P) BT.nil BT.nil) BT.nil) (BT.node (hd.o_147 P) BT.nil BT.nil)) (BT.node (hd.o_94 P) (BT.node (hd.o_131 P) BT.nil BT.nil) (BT.node (hd.o_163 P) BT.nil BT.nil))) (BT.node (hd.o_67 P) (BT.node (hd.o_86 P) (BT.node (hd.o_121 P) (BT.node (hd.o_187 P) BT.nil BT.nil) BT.nil) (BT.node (hd.o_155 P) BT.nil BT.nil)) (BT.node (hd.o_102 P) (BT.node (hd.o_139 P) BT.nil BT.nil) (BT.node (hd.o_171 P) BT.nil BT.nil))))))
noncomputable def hd.tree_251 : Params → BT := fun P => BT.node (boot_o_0 P) (BT.node (boot_o_1 P) (BT.node (hd.o_192 P) (BT.node (boot_o_7 P) (BT.node (hd.o_52 P) (BT.node (hd.o_68 P) (BT.node (hd.o_103 P) (BT.node (hd.o_172 P) BT.nil BT.nil) (BT.node (hd.o_238 P) BT.nil BT.nil)) (BT.node (hd.o_140 P) (BT.node (hd.o_206 P) BT.nil BT.nil) BT.nil)) (BT.node (hd.o_87 P) (BT.node (hd.o_122 P) (BT.node (hd.o_188 P) BT.nil BT.nil) BT.nil) (BT.node (hd.o_156 P) (BT.node (hd.o_222 P) BT.nil BT.nil) BT.nil))) (BT.node (hd.o_60 P) (BT.node (hd.o_76 P) (BT.node (hd.o_111 P) (BT.node (hd.o_180 P) BT.nil BT.nil) (BT.node (hd.o_246 P) BT.nil BT.nil)) (BT.node (hd.o_148 P) (BT.node (hd.o_214 P) BT.nil BT.nil) BT.nil)) (BT.node (hd.o_95 P) (BT.node (hd.o_132 P) (BT.node (hd.o_198 P) BT.nil BT.nil) BT.nil) (BT.node (hd.o_164 P) (BT.node (hd.o_230 P) BT.nil BT.nil) BT.nil)))) (BT.node (hd.o_43 P) (BT.node (hd.o_56 P) (BT.node (hd.o_72 P) (BT.node (hd.o_107 P) (BT.node (hd.o_176 P) BT.nil BT.nil) (BT.node (hd.o_242 P) BT.nil BT.nil)) (BT.node (hd.o_144 P) (BT.node (hd.o_210 P) BT.nil BT.nil) BT.nil)) (BT.node (hd.o_91 P) (BT.node (hd.o_126 P) (BT.node (hd.o_194 P) BT.nil BT.nil) BT.nil) (BT.node (hd.o_160 P) (BT.node (hd.o_226 P) BT.nil BT.nil) BT.nil))) (BT.node (hd.o_64 P) (BT.node (hd.o_80 P) (BT.node (hd.o_118 P) (BT.node (hd.o_184 P) BT.nil BT.nil) (BT.node (hd.o_250 P) BT.nil BT.nil)) (BT.node (hd.o_152 P) (BT.node (hd.o_218 P) BT.nil BT.nil) BT.nil)) (BT.node (hd.o_99 P) (BT.node (hd.o_136 P) (BT.node (hd.o_202 P) BT.nil BT.nil) BT.nil) (BT.node (hd.o_168 P) (BT.node (hd.o_234 P) BT.nil BT.nil) BT.nil))))) (BT.node (boot_o_5 P) (BT.node (boot_o_9 P) (BT.node (hd.o_54 P) (BT.node (hd.o_70 P) (BT.node (hd.o_105 P) (BT.node (hd.o_174 P) BT.nil BT.nil) (BT.node (hd.o_240 P) BT.nil BT.nil)) (BT.node (hd.o_142 P) (BT.node (hd.o_208 P) BT.nil BT.nil) BT.nil)) (BT.node (hd.o_89 P) (BT.node (hd.o_124 P) (BT.node (hd.o_190 P) BT.nil BT.nil) BT.nil) (BT.node (hd.o_158 P) (BT.node (hd.o_224 P) BT.nil BT.nil) BT.nil))) (BT.node (hd.o_62 P) (BT.node (hd.o_78 P) (BT.node (hd.o_116 P) (BT.node (hd.o_182 P) BT.nil BT.nil) (BT.node (hd.o_248 P) BT.nil BT.nil)) (BT.node (hd.o_150 P) (BT.node (hd.o_216 P) BT.nil BT.nil) BT.nil)) (BT.node (hd.o_97 P) (BT.node (hd.o_134 P) (BT.node (hd.o_200 P) BT.nil BT.nil) BT.nil) (BT.node (hd.o_166 P) (BT.node (hd.o_232 P) BT.nil BT.nil) BT.nil)))) (BT.node (hd.o_45 P) (BT.node (hd.o_58 P) (BT.node (hd.o_74 P) (BT.node (hd.o_114 P) (BT.node (hd.o_178 P) BT.nil BT.nil) (BT.node (hd.o_244 P) BT.nil BT.nil)) (BT.node (hd.o_146 P) (BT.node (hd.o_212 P) BT.nil BT.nil) BT.nil)) (BT.node (hd.o_93 P) (BT.node (hd.o_130 P) (BT.node (hd.o_196 P) BT.nil BT.nil) BT.nil) (BT.node (hd.o_162 P) (BT.node (hd.o_228 P) BT.nil BT.nil) BT.nil))) (BT.node (hd.o_66 P) (BT.node (hd.o_85 P) (BT.node (hd.o_120 P) (BT.node (hd.o_186 P) BT.nil BT.nil) BT.nil) (BT.node (hd.o_154 P) (BT.node (hd.o_220 P) BT.nil BT.nil) BT.nil)) (BT.node (hd.o_101 P) (BT.node (hd.o_138 P) (BT.node (hd.o_204 P) BT.nil BT.nil) BT.nil) (BT.node (hd.o_170 P) (BT.node (hd.o_236 P) BT.nil BT.nil) BT.nil)))))) (BT.node (hd.o_49 P) (BT.node (boot_o_4 P) (BT.node (boot_o_8 P) (BT.node (hd.o_53 P) (BT.node (hd.o_69 P) (BT.node (hd.o_104 P) (BT.node (hd.o_173 P) BT.nil BT.nil) (BT.node (hd.o_239 P) BT.nil BT.nil)) (BT.node (hd.o_141 P) (BT.node (hd.o_207 P) BT.nil BT.nil) BT.nil)) (BT.node (hd.o_88 P) (BT.node (hd.o_123 P) (BT.node (hd.o_189 P) BT.nil BT.nil) BT.nil) (BT.node (hd.o_157 P) (BT.node (hd.o_223 P) BT.nil BT.nil) BT.nil))) (BT.node (hd.o_61 P) (BT.node (hd.o_83 P) (BT.node (hd.o_115 P) (BT.node (hd.o_181 P) BT.nil BT.nil) (BT.node (hd.o_247 P) BT.nil BT.nil)) (BT.node (hd.o_149 P) (BT.node (hd.o_215 P) BT.nil BT.nil) BT.nil)) (BT.node (hd.o_96 P) (BT.node (hd.o_133 P) (BT.node (hd.o_199 P) BT.nil BT.nil) BT.nil) (BT.node (hd.o_165 P) (BT.node (hd.o_231 P) BT.nil BT.nil) BT.nil)))) (BT.node (hd.o_193 P) (BT.node (hd.o_57 P) (BT.node (hd.o_73 P) (BT.node (hd.o_108 P) (BT.node (hd.o_177 P) BT.nil BT.nil) (BT.node (hd.o_243 P) BT.nil BT.nil)) (BT.node (hd.o_145 P) (BT.node (hd.o_211 P) BT.nil BT.nil) BT.nil)) (BT.node (hd.o_92 P) (BT.node (hd.o_129 P) (BT.node (hd.o_195 P) BT.nil BT.nil) BT.nil) (BT.node (hd.o_161 P) (BT.node (hd.o_227 P) BT.nil BT.nil) BT.nil))) (BT.node (hd.o_65 P) (BT.node (hd.o_84 P) (BT.node (hd.o_119 P) (BT.node (hd.o_185 P) BT.nil BT.nil) (BT.node (hd.o_251 P) BT.nil BT.nil)) (BT.node (hd.o_153 P) (BT.node (hd.o_219 P) BT.nil BT.nil) BT.nil)) (BT.node (hd.o_100 P) (BT.node (hd.o_137 P) (BT.node (hd.o_203 P) BT.nil BT.nil) BT.nil) (BT.node (hd.o_169 P) (BT.node (hd.o_235 P) BT.nil BT.nil) BT.nil))))) (BT.node (boot_o_6 P) (BT.node (boot_o_10 P) (BT.node (hd.o_55 P) (BT.node (hd.o_71 P) (BT.node (hd.o_106 P) (BT.node (hd.o_175 P) BT.nil BT.nil) (BT.node (hd.o_241 P) BT.nil BT.nil)) (BT.node (hd.o_143 P) (BT.node (hd.o_209 P) BT.nil BT.nil) BT.nil)) (BT.node (hd.o_90 P) (BT.node (hd.o_125 P) (BT.node (hd.o_191 P) BT.nil BT.nil) BT.nil) (BT.node (hd.o_159 P) (BT.node (hd.o_225 P) BT.nil BT.nil) BT.nil))) (BT.node (hd.o_63 P) (BT.node (hd.o_79 P) (BT.node (hd.o_117 P) (BT.node (hd.o_183 P) BT.nil BT.nil) (BT.node (hd.o_249 P) BT.nil BT.nil)) (BT.node (hd.o_151 P) (BT.node (hd.o_217 P) BT.nil BT.nil) BT.nil)) (BT.node (hd.o_98 P) (BT.node (hd.o_135 P) (BT.node (hd.o_201 P) BT.nil BT.nil) BT.nil) (BT.node (hd.o_167 P) (BT.node (hd.o_233 P) BT.nil BT.nil) BT.nil)))) (BT.node (hd.o_46 P) (BT.node (hd.o_59 P) (BT.node (hd.o_75 P) (BT.node (hd.o_110 P) (BT.node (hd.o_179 P) BT.nil BT.nil) (BT.node (hd.o_245 P) BT.nil BT.nil)) (BT.node (hd.o_147 P) (BT.node (hd.o_213 P) BT.nil BT.nil) BT.nil)) (BT.node (hd.o_94 P) (BT.node (hd.o_131 P) (BT.node (hd.o_197 P) BT.nil BT.nil) BT.nil) (BT.node (hd.o_163 P) (BT.node (hd.o_229 P) BT.nil BT.nil) BT.nil))) (BT.node (hd.o_67 P) (BT.node (hd.o_86 P) (BT.node (hd.o_121 P) (BT.node (hd.o_187 P) BT.nil BT.nil) BT.nil) (BT.node (hd.o_155 P) (BT.node (hd.o_221 P) BT.nil BT.nil) BT.nil)) (BT.node (hd.o_102 P) (BT.node (hd.o_139 P) (BT.node (hd.o_205 P) BT.nil BT.nil) BT.nil) (BT.node (hd.o_171 P) (BT.node (hd.o_237 P) BT.nil BT.nil) BT.nil))))))
noncomputable def hd.heap_252 : Params → Heap := fun P => Heap.mk (Array.mk [boot_o_0 P, boot_o_1 P, hd.o_49 P, hd.o_192 P, boot_o_4 P, boot_o_5 P, boot_o_6 P, boot_o_7 P, boot_o_8 P, boot_o_9 P, boot_o_10 P, hd.o_43 P, hd.o_193 P, hd.o_45 P, hd.o_46 P, hd.o_52 P, hd.o_53 P, hd.o_54 P, hd.o_55 P, hd.o_56 P, hd.o_57 P, hd.o_58 P, hd.o_59 P, hd.o_60 P, hd.o_61 P, hd.o_62 P, hd.o_63 P, hd.o_64 P, hd.o_65 P, hd.o_66 P, hd.o_67 P, hd.o_68 P, hd.o_69 P, hd.o_70 P, hd.o_71 P, hd.o_72 P, hd.o_73 P, hd.o_74 P, hd.o_75 P, hd.o_76 P, hd.o_83 P, hd.o_78 P, hd.o_79 P, hd.o_80 P, hd.o_84 P, hd.o_85 P, hd.o_86 P, hd.o_87 P, hd.o_88 P, hd.o_89 P, hd.o_90 P, hd.o_91 P, hd.o_92 P, hd.o_93 P, hd.o_94 P, hd.o_95 P, hd.o_96 P, hd.o_97 P, hd.o_98 P, hd.o_99 P, hd.o_100 P, hd.o_101 P, hd.o_102 P, hd.o_103 P, hd.o_104 P, hd.o_105 P, hd.o_106 P, hd.o_107 P, hd.o_108 P, hd.o_114 P, hd.o_110 P, hd.o_111 P, hd.o_115 P, hd.o_116 P, hd.o_117 P, hd.o_118 P, hd.o_119 P, hd.o_120 P, hd.o_121 P, hd.o_122 P, hd.o_123 P, hd.o_124 P, hd.o_125 P, hd.o_126 P, hd.o_129 P, hd.o_130 P, hd.o_131 P, hd.o_132 P, hd.o_133 P, hd.o_134 P, hd.o_135 P, hd.o_136 P, hd.o_137 P, hd.o_138 P, hd.o_139 P, hd.o_140 P, hd.o_141 P, hd.o_142 P, hd.o_143 P, hd.o_144 P, hd.o_145 P, hd.o_146 P, hd.o_147 P, hd.o_148 P, hd.o_149 P, hd.o_150 P, hd.o_151 P, hd.o_152 P, hd.o_153 P, hd.o_154 P, hd.o_155 P, hd.o_156 P, hd.o_157 P, hd.o_158 P, hd.o_159 P, hd.o_160 P, hd.o_161 P, hd.o_162 P, hd.o_163 P, hd.o_164 P, hd.o_165 P, hd.o_166 P, hd.o_167 P, hd.o_168 P, hd.o_169 P, hd.o_170 P, hd.o_171 P, hd.o_172 P, hd.o_173 P, hd.o_174 P, hd.o_175 P, hd.o_176 P, hd.o_177 P, hd.o_178 P, hd.o_179 P, hd.o_180 P, hd.o_181 P, hd.o_182 P, hd.o_183 P, hd.o_184 P, hd.o_185 P, hd.o_186 P, hd.o_187 P, hd.o_188 P, hd.o_189 P, hd.o_190 P, hd.o_191 P, hd.o_194 P, hd.o_195 P, hd.o_196 P, hd.o_197 P, hd.o_198 P, hd.o_199 P, hd.o_200 P, hd.o_201 P, hd.o_202 P, hd.o_203 P, hd.o_204 P, hd.o_205 P, hd.o_206 P, hd.o_207 P, hd.o_208 P, hd.o_209 P, hd.o_210 P, hd.o_211 P, hd.o_212 P, hd.o_213 P, hd.o_214 P, hd.o_215 P, hd.o_216 P, hd.o_217 P, hd.o_218 P, hd.o_219 P, hd.o_220 P, hd.o_221 P, hd.o_222 P, hd.o_223 P, hd.o_224 P, hd.o_225 P, hd.o_226 P, hd.o_227 P, hd.o_228 P, hd.o_229 P, hd.o_230 P, hd.o_231 P, hd.o_232 P, hd.o_233 P, hd.o_234 P, hd.o_235 P, hd.o_236 P, hd.o_237 P, hd.o_238 P, hd.o_239 P, hd.o_240 P, hd.o_241 P, hd.o_242 P, hd.o_243 P, hd.o_244 P, hd.o_245 P, hd.o_246 P, hd.o_247 P, hd.o_248 P, hd.o_249 P, hd.o_250 P, hd.o_251 P]) (Life.mk [] [] [] 0 [] [] false #[] [] 0 false false false 0 [2000, 10, 10] false 0 true [] [] 0 false)
noncomputable def hd.sts_49 : List Stmt := ((behindTheImports pg).drop 0).take 2
noncomputable def hd.sts_81 : List Stmt := ((behindTheImports pg).drop 2).take 1
noncomputable def hd.sts_112 : List Stmt := ((behindTheImports pg).drop 3).take 6
noncomputable def hd.sts_127 : List Stmt := ((behindTheImports pg).drop 9).take 1
noncomputable def hd.sts_192 : List Stmt := ((behindTheImports pg).drop 10).take 11
noncomputable def cd : Code := Code.body (behindTheImports pg) hd.env_41
noncomputable def hd.view_39 : Program := view pg [1, 2, 3, 5, 6, 7, 8, 9, 11, 12, 13, 14, 15, 16, 17, 18, 19, 20]
noncomputable def hd.heap_39 : Params → Frag := by
  refine (?f30 : ∀ n a b d r t s ts bd ps, subA (stA 1) 0 = Stmt.FunctionDef n a b d r t s ts bd ps → Params → Frag) _ _ _ _ _ _ _ _ _ _ rfl
  intro _ a30 b30 _ _ _ s30 _ _ _ _
  refine (?f37 : ∀ n a b d r t s ts bd ps, subA (stA 1) 1 = Stmt.FunctionDef n a b d r t s ts bd ps → Params → Frag) _ _ _ _ _ _ _ _ _ _ rfl
  intro _ a37 b37 _ _ _ s37 _ _ _ _
  refine (?f59 : ∀ n a b d r t s ts bd ps, subA (stA 2) 0 = Stmt.FunctionDef n a b d r t s ts bd ps → Params → Frag) _ _ _ _ _ _ _ _ _ _ rfl
  intro _ a59 b59 _ _ _ s59 _ _ _ _
  refine (?f66 : ∀ n a b d r t s ts bd ps, subA (stA 2) 1 = Stmt.FunctionDef n a b d r t s ts bd ps → Params → Frag) _ _ _ _ _ _ _ _ _ _ rfl
  intro _ a66 b66 _ _ _ s66 _ _ _ _
  refine (?f97 : ∀ n a b d r t s ts bd ps, subA (stA 9) 0 = Stmt.FunctionDef n a b d r t s ts bd ps → Params → Frag) _ _ _ _ _ _ _ _ _ _ rfl
  intro _ a97 b97 _ _ _ s97 _ _ _ _
  refine (?f104 : ∀ n a b d r t s ts bd ps, subA (stA 9) 1 = Stmt.FunctionDef n a b d r t s ts bd ps → Params → Frag) _ _ _ _ _ _ _ _ _ _ rfl
  intro _ a104 b104 _ _ _ s104 _ _ _ _
  refine (?f111 : ∀ n a b d r t s ts bd ps, subA (stA 9) 2 = Stmt.FunctionDef n a b d r t s ts bd ps → Params → Frag) _ _ _ _ _ _ _ _ _ _ rfl
  intro _ a111 b111 _ _ _ s111 _ _ _ _
  refine (?f118 : ∀ n a b d r t s ts bd ps, subA (stA 9) 3 = Stmt.FunctionDef n a b d r t s ts bd ps → Params → Frag) _ _ _ _ _ _ _ _ _ _ rfl
  intro _ a118 b118 _ _ _ s118 _ _ _ _
  refine (?f125 : ∀ n a b d r t s ts bd ps, subA (stA 9) 4 = Stmt.FunctionDef n a b d r t s ts bd ps → Params → Frag) _ _ _ _ _ _ _ _ _ _ rfl
  intro _ a125 b125 _ _ _ s125 _ _ _ _
  refine (?f132 : ∀ n a b d r t s ts bd ps, subA (stA 9) 5 = Stmt.FunctionDef n a b d r t s ts bd ps → Params → Frag) _ _ _ _ _ _ _ _ _ _ rfl
  intro _ a132 b132 _ _ _ s132 _ _ _ _
  refine (?f139 : ∀ n a b d r t s ts bd ps, subA (stA 9) 6 = Stmt.FunctionDef n a b d r t s ts bd ps → Params → Frag) _ _ _ _ _ _ _ _ _ _ rfl
  intro _ a139 b139 _ _ _ s139 _ _ _ _
  refine (?f155 : ∀ n a b d r t s ts bd ps, stA 13 = Stmt.FunctionDef n a b d r t s ts bd ps → Params → Frag) _ _ _ _ _ _ _ _ _ _ rfl
  intro _ a155 b155 _ _ _ s155 _ _ _ _
  refine (?f162 : ∀ n a b d r t s ts bd ps, stA 14 = Stmt.FunctionDef n a b d r t s ts bd ps → Params → Frag) _ _ _ _ _ _ _ _ _ _ rfl
  intro _ a162 b162 _ _ _ s162 _ _ _ _
  refine (?f169 : ∀ n a b d r t s ts bd ps, stA 15 = Stmt.FunctionDef n a b d r t s ts bd ps → Params → Frag) _ _ _ _ _ _ _ _ _ _ rfl
  intro _ a169 b169 _ _ _ s169 _ _ _ _
  refine (?f176 : ∀ n a b d r t s ts bd ps, stA 16 = Stmt.FunctionDef n a b d r t s ts bd ps → Params → Frag) _ _ _ _ _ _ _ _ _ _ rfl
  intro _ a176 b176 _ _ _ s176 _ _ _ _
  refine (?f183 : ∀ n a b d r t s ts bd ps, stA 17 = Stmt.FunctionDef n a b d r t s ts bd ps → Params → Frag) _ _ _ _ _ _ _ _ _ _ rfl
  intro _ a183 b183 _ _ _ s183 _ _ _ _
  refine (?f190 : ∀ n a b d r t s ts bd ps, stA 18 = Stmt.FunctionDef n a b d r t s ts bd ps → Params → Frag) _ _ _ _ _ _ _ _ _ _ rfl
  intro _ a190 b190 _ _ _ s190 _ _ _ _
  refine (?f197 : ∀ n a b d r t s ts bd ps, stA 19 = Stmt.FunctionDef n a b d r t s ts bd ps → Params → Frag) _ _ _ _ _ _ _ _ _ _ rfl
  intro _ a197 b197 _ _ _ s197 _ _ _ _
  refine (?f204 : ∀ n a b d r t s ts bd ps, stA 20 = Stmt.FunctionDef n a b d r t s ts bd ps → Params → Frag) _ _ _ _ _ _ _ _ _ _ rfl
  intro _ a204 b204 _ _ _ s204 _ _ _ _
  exact fun P =>
    (nat_lit 2, Obj.mk Value.none none (Data.dict #[DictEntry.mk (PyData.keyHash P (Str.ofString "type.__subclasses__.Exception.0")) (Value.str (Str.ofString "type.__subclasses__.Exception.0") 223) (Value.int 40 0), DictEntry.mk (PyData.keyHash P (Str.ofString "type.__subclasses__.Exception.n")) (Value.str (Str.ofString "type.__subclasses__.Exception.n") 224) (Value.int 1 0)] 2) #[]) ::
    (nat_lit 3, Obj.mk (Value.type "dict") none (Data.dict #[DictEntry.mk (PyData.keyHash P (Str.ofString "__name__")) (Value.str (Str.ofString "__name__") 165) (Value.str (Str.ofString "law_nz0006_01") 372), DictEntry.mk (PyData.keyHash P (Str.ofString "__doc__")) (Value.str (Str.ofString "__doc__") 166) Value.none, DictEntry.mk (PyData.keyHash P (Str.ofString "__package__")) (Value.str (Str.ofString "__package__") 167) Value.none, DictEntry.mk (PyData.keyHash P (Str.ofString "__loader__")) (Value.str (Str.ofString "__loader__") 168) (Value.builtin "__main__.__loader__#opaque"), DictEntry.mk (PyData.keyHash P (Str.ofString "__spec__")) (Value.str (Str.ofString "__spec__") 169) Value.none, DictEntry.mk (PyData.keyHash P (Str.ofString "__annotations__")) (Value.str (Str.ofString "__annotations__") 170) (Value.ref 6), DictEntry.mk (PyData.keyHash P (Str.ofString "__builtins__")) (Value.str (Str.ofString "__builtins__") 171) (Value.ref 4), DictEntry.mk (PyData.keyHash P (Str.ofString "__file__")) (Value.str (Str.ofString "__file__") 173) (Value.str (Str.ofString "/claim/cut.py") 172), DictEntry.mk (PyData.keyHash P (Str.ofString "__cached__")) (Value.str (Str.ofString "__cached__") 174) Value.none, DictEntry.mk (PyData.keyHash P (Str.ofString "FdError")) (Value.str (Str.ofString "FdError") 226) (Value.ref 40), DictEntry.mk (PyData.keyHash P (Str.ofString "SpotFault")) (Value.str (Str.ofString "SpotFault") 261) (Value.ref 69), DictEntry.mk (PyData.keyHash P (Str.ofString "TextFault")) (Value.str (Str.ofString "TextFault") 277) (Value.ref 81), DictEntry.mk (PyData.keyHash P (Str.ofString "DIGITS")) (Value.str (Str.ofString "DIGITS") 281) (Value.str (Str.ofString "0123456789") 280), DictEntry.mk (PyData.keyHash P (Str.ofString "LETTERS")) (Value.str (Str.ofString "LETTERS") 283) (Value.str (Str.ofString "abcdefghijklmnopqrstuvwxyzABCDEFGHIJKLMNOPQRSTUVWXYZ_") 282), DictEntry.mk (PyData.keyHash P (Str.ofString "SIGNS")) (Value.str (Str.ofString "SIGNS") 285) (Value.str (Str.ofString "()[]{},;:") 284), DictEntry.mk (PyData.keyHash P (Str.ofString "MOST_DIGITS")) (Value.str (Str.ofString "MOST_DIGITS") 287) (Value.int 1000 286), DictEntry.mk (PyData.keyHash P (Str.ofString "FlatScanner")) (Value.str (Str.ofString "FlatScanner") 371) (Value.ref 142), DictEntry.mk (PyData.keyHash P (Str.ofString "_law_good")) (Value.str (Str.ofString "_law_good") 398) (Value.ref 147), DictEntry.mk (PyData.keyHash P (Str.ofString "_law_odd")) (Value.str (Str.ofString "_law_odd") 407) (Value.ref 148), DictEntry.mk (PyData.keyHash P (Str.ofString "_law_text")) (Value.str (Str.ofString "_law_text") 418) (Value.ref 155), DictEntry.mk (PyData.keyHash P (Str.ofString "_law_sort")) (Value.str (Str.ofString "_law_sort") 425) (Value.ref 162), DictEntry.mk (PyData.keyHash P (Str.ofString "_law_worth")) (Value.str (Str.ofString "_law_worth") 434) (Value.ref 169), DictEntry.mk (PyData.keyHash P (Str.ofString "_law_leave")) (Value.str (Str.ofString "_law_leave") 443) (Value.ref 176), DictEntry.mk (PyData.keyHash P (Str.ofString "_law_inside")) (Value.str (Str.ofString "_law_inside") 453) (Value.ref 183), DictEntry.mk (PyData.keyHash P (Str.ofString "_law_outside")) (Value.str (Str.ofString "_law_outside") 463) (Value.ref 190), DictEntry.mk (PyData.keyHash P (Str.ofString "_law_machine")) (Value.str (Str.ofString "_law_machine") 474) (Value.ref 197), DictEntry.mk (PyData.keyHash P (Str.ofString "law")) (Value.str (Str.ofString "law") 489) (Value.ref 204)] 27) #[]) ::
    (nat_lit 15, Obj.mk (Value.type "tuple") none (Data.seq #[Value.type "Exception"]) #[]) ::
    (nat_lit 18, Obj.mk (Value.type "cell") none (Data.cell (some (Value.ref 40))) #[]) ::
    (nat_lit 23, Obj.mk (Value.type "tuple") none (Data.seq #[Value.ref 18]) #[]) ::
    (nat_lit 24, Obj.mk (Value.type "tuple") none (Data.seq #[Value.str (Str.ofString "__class__") 204]) #[]) ::
    (nat_lit 26, Obj.mk (Value.type "tuple") none (Data.seq #[Value.str (Str.ofString "self") 205, Value.str (Str.ofString "what") 206]) #[]) ::
    (nat_lit 27, Obj.mk (Value.type "tuple") none (Data.seq #[]) #[]) ::
    (nat_lit 29, Obj.mk (Value.type "code") none (Data.fields #[Value.str (Str.ofString "__init__") 201, Value.str (Str.ofString "FdError.__init__") 202, Value.str (Str.ofString "/claim/cut.py") 203, Value.int 4 0, Value.int 2 0, Value.int 0 0, Value.int 0 0, Value.int 3 0, Value.ref 24, Value.bool true, Value.int 181 0, Value.ref 25, Value.none, Value.ref 26, Value.ref 27, Value.ref 28, Value.int 207 0, Value.int 4 0, Value.str (Str.ofString "/claim/cut.py") 208]) #[]) ::
    (nat_lit 30, Obj.mk (Value.type "function") none (Data.func (FuncData.mk (Str.ofString "__init__") (Str.ofString "FdError.__init__") a30 (FuncBody.stmts b30) s30 3 [(Str.ofString "__class__", 18)] Value.none Value.none Value.none (Value.str (Str.ofString "fdsolve.errors") 187) none (Value.ref 29) (Value.ref 23) 0)) #[]) ::
    (nat_lit 31, Obj.mk (Value.type "tuple") none (Data.seq #[]) #[]) ::
    (nat_lit 33, Obj.mk (Value.type "tuple") none (Data.seq #[Value.str (Str.ofString "self") 213]) #[]) ::
    (nat_lit 34, Obj.mk (Value.type "tuple") none (Data.seq #[]) #[]) ::
    (nat_lit 36, Obj.mk (Value.type "code") none (Data.fields #[Value.str (Str.ofString "told") 210, Value.str (Str.ofString "FdError.told") 211, Value.str (Str.ofString "/claim/cut.py") 212, Value.int 8 0, Value.int 1 0, Value.int 0 0, Value.int 0 0, Value.int 3 0, Value.ref 31, Value.bool true, Value.int 181 0, Value.ref 32, Value.none, Value.ref 33, Value.ref 34, Value.ref 35, Value.int 214 0, Value.int 8 0, Value.str (Str.ofString "/claim/cut.py") 215]) #[]) ::
    (nat_lit 37, Obj.mk (Value.type "function") none (Data.func (FuncData.mk (Str.ofString "told") (Str.ofString "FdError.told") a37 (FuncBody.stmts b37) s37 3 [] Value.none Value.none Value.none (Value.str (Str.ofString "fdsolve.errors") 187) none (Value.ref 36) Value.none 0)) #[]) ::
    (nat_lit 38, Obj.mk (Value.type "tuple") none (Data.seq #[Value.str (Str.ofString "what") 217]) #[]) ::
    (nat_lit 39, Obj.mk (Value.type "dict") none (Data.dict #[DictEntry.mk (PyData.keyHash P (Str.ofString "__module__")) (Value.str (Str.ofString "__module__") 196) (Value.str (Str.ofString "fdsolve.errors") 187), DictEntry.mk (PyData.keyHash P (Str.ofString "__firstlineno__")) (Value.str (Str.ofString "__firstlineno__") 200) (Value.int 2 199), DictEntry.mk (PyData.keyHash P (Str.ofString "__init__")) (Value.str (Str.ofString "__init__") 209) (Value.ref 30), DictEntry.mk (PyData.keyHash P (Str.ofString "told")) (Value.str (Str.ofString "told") 216) (Value.ref 37), DictEntry.mk (PyData.keyHash P (Str.ofString "__static_attributes__")) (Value.str (Str.ofString "__static_attributes__") 218) (Value.ref 38), DictEntry.mk (PyData.keyHash P (Str.ofString "__weakref__")) (Value.str (Str.ofString "__weakref__") 221) (Value.ref 41), DictEntry.mk (PyData.keyHash P (Str.ofString "__doc__")) (Value.str (Str.ofString "__doc__") 222) Value.none] 4) #[]) ::
    (nat_lit 40, Obj.mk (Value.type "type") none (Data.cls (ClassData.mk (Str.ofString "FdError") [Value.type "Exception"] [Value.ref 40, Value.type "Exception", Value.type "BaseException", Value.type "object"] 39 (Str.ofString "FdError") true [] [Value.ref 69] false none false)) #[some (Value.ref 15), none, some (Value.str (Str.ofString "FdError") 189), some (Value.str (Str.ofString "FdError") 197), some (Value.builtin "Exception.__new__"), some (Value.bool true)]) ::
    (nat_lit 41, Obj.mk (Value.type "getset_descriptor") none (Data.fields #[Value.str (Str.ofString "__weakref__") 220, Value.ref 40, Value.builtin "ExceptionGroup.__weakref__", Value.none]) #[]) ::
    (nat_lit 44, Obj.mk (Value.type "tuple") none (Data.seq #[Value.ref 40]) #[]) ::
    (nat_lit 47, Obj.mk (Value.type "cell") none (Data.cell (some (Value.ref 69))) #[]) ::
    (nat_lit 52, Obj.mk (Value.type "tuple") none (Data.seq #[Value.ref 47]) #[]) ::
    (nat_lit 53, Obj.mk (Value.type "tuple") none (Data.seq #[Value.str (Str.ofString "__class__") 242]) #[]) ::
    (nat_lit 55, Obj.mk (Value.type "tuple") none (Data.seq #[Value.str (Str.ofString "self") 243, Value.str (Str.ofString "what") 244, Value.str (Str.ofString "spot") 245]) #[]) ::
    (nat_lit 56, Obj.mk (Value.type "tuple") none (Data.seq #[]) #[]) ::
    (nat_lit 58, Obj.mk (Value.type "code") none (Data.fields #[Value.str (Str.ofString "__init__") 239, Value.str (Str.ofString "SpotFault.__init__") 240, Value.str (Str.ofString "/claim/cut.py") 241, Value.int 12 0, Value.int 3 0, Value.int 0 0, Value.int 0 0, Value.int 3 0, Value.ref 53, Value.bool true, Value.int 181 0, Value.ref 54, Value.none, Value.ref 55, Value.ref 56, Value.ref 57, Value.int 246 0, Value.int 12 0, Value.str (Str.ofString "/claim/cut.py") 247]) #[]) ::
    (nat_lit 59, Obj.mk (Value.type "function") none (Data.func (FuncData.mk (Str.ofString "__init__") (Str.ofString "SpotFault.__init__") a59 (FuncBody.stmts b59) s59 3 [(Str.ofString "__class__", 47)] Value.none Value.none Value.none (Value.str (Str.ofString "fdsolve.errors") 187) none (Value.ref 58) (Value.ref 52) 0)) #[]) ::
    (nat_lit 60, Obj.mk (Value.type "tuple") none (Data.seq #[]) #[]) ::
    (nat_lit 62, Obj.mk (Value.type "tuple") none (Data.seq #[Value.str (Str.ofString "self") 252]) #[]) ::
    (nat_lit 63, Obj.mk (Value.type "tuple") none (Data.seq #[]) #[]) ::
    (nat_lit 65, Obj.mk (Value.type "code") none (Data.fields #[Value.str (Str.ofString "told") 249, Value.str (Str.ofString "SpotFault.told") 250, Value.str (Str.ofString "/claim/cut.py") 251, Value.int 16 0, Value.int 1 0, Value.int 0 0, Value.int 0 0, Value.int 3 0, Value.ref 60, Value.bool true, Value.int 181 0, Value.ref 61, Value.none, Value.ref 62, Value.ref 63, Value.ref 64, Value.int 253 0, Value.int 16 0, Value.str (Str.ofString "/claim/cut.py") 254]) #[]) ::
    (nat_lit 66, Obj.mk (Value.type "function") none (Data.func (FuncData.mk (Str.ofString "told") (Str.ofString "SpotFault.told") a66 (FuncBody.stmts b66) s66 3 [] Value.none Value.none Value.none (Value.str (Str.ofString "fdsolve.errors") 187) none (Value.ref 65) Value.none 0)) #[]) ::
    (nat_lit 67, Obj.mk (Value.type "tuple") none (Data.seq #[Value.str (Str.ofString "spot") 256]) #[]) ::
    (nat_lit 68, Obj.mk (Value.type "dict") none (Data.dict #[DictEntry.mk (PyData.keyHash P (Str.ofString "__module__")) (Value.str (Str.ofString "__module__") 234) (Value.str (Str.ofString "fdsolve.errors") 187), DictEntry.mk (PyData.keyHash P (Str.ofString "__firstlineno__")) (Value.str (Str.ofString "__firstlineno__") 238) (Value.int 10 237), DictEntry.mk (PyData.keyHash P (Str.ofString "__init__")) (Value.str (Str.ofString "__init__") 248) (Value.ref 59), DictEntry.mk (PyData.keyHash P (Str.ofString "told")) (Value.str (Str.ofString "told") 255) (Value.ref 66), DictEntry.mk (PyData.keyHash P (Str.ofString "__static_attributes__")) (Value.str (Str.ofString "__static_attributes__") 257) (Value.ref 67), DictEntry.mk (PyData.keyHash P (Str.ofString "__doc__")) (Value.str (Str.ofString "__doc__") 259) Value.none] 3) #[]) ::
    (nat_lit 69, Obj.mk (Value.type "type") none (Data.cls (ClassData.mk (Str.ofString "SpotFault") [Value.ref 40] [Value.ref 69, Value.ref 40, Value.type "Exception", Value.type "BaseException", Value.type "object"] 68 (Str.ofString "SpotFault") true [] [Value.ref 81] false none false)) #[some (Value.ref 44), none, some (Value.str (Str.ofString "SpotFault") 227), some (Value.str (Str.ofString "SpotFault") 235), some (Value.builtin "Exception.__new__"), some (Value.bool true)]) ::
    (nat_lit 72, Obj.mk (Value.type "tuple") none (Data.seq #[Value.ref 69]) #[]) ::
    (nat_lit 79, Obj.mk (Value.type "tuple") none (Data.seq #[]) #[]) ::
    (nat_lit 80, Obj.mk (Value.type "dict") none (Data.dict #[DictEntry.mk (PyData.keyHash P (Str.ofString "__module__")) (Value.str (Str.ofString "__module__") 269) (Value.str (Str.ofString "fdsolve.errors") 187), DictEntry.mk (PyData.keyHash P (Str.ofString "__firstlineno__")) (Value.str (Str.ofString "__firstlineno__") 273) (Value.int 18 272), DictEntry.mk (PyData.keyHash P (Str.ofString "__static_attributes__")) (Value.str (Str.ofString "__static_attributes__") 274) (Value.ref 79), DictEntry.mk (PyData.keyHash P (Str.ofString "__doc__")) (Value.str (Str.ofString "__doc__") 275) Value.none] 2) #[]) ::
    (nat_lit 81, Obj.mk (Value.type "type") none (Data.cls (ClassData.mk (Str.ofString "TextFault") [Value.ref 69] [Value.ref 81, Value.ref 69, Value.ref 40, Value.type "Exception", Value.type "BaseException", Value.type "object"] 80 (Str.ofString "TextFault") true [] [] false none false)) #[some (Value.ref 72), none, some (Value.str (Str.ofString "TextFault") 262), some (Value.str (Str.ofString "TextFault") 270), some (Value.builtin "Exception.__new__"), some (Value.bool true)]) ::
    (nat_lit 91, Obj.mk (Value.type "tuple") none (Data.seq #[]) #[]) ::
    (nat_lit 93, Obj.mk (Value.type "tuple") none (Data.seq #[Value.str (Str.ofString "self") 303, Value.str (Str.ofString "text") 304]) #[]) ::
    (nat_lit 94, Obj.mk (Value.type "tuple") none (Data.seq #[]) #[]) ::
    (nat_lit 96, Obj.mk (Value.type "code") none (Data.fields #[Value.str (Str.ofString "__init__") 300, Value.str (Str.ofString "FlatScanner.__init__") 301, Value.str (Str.ofString "/claim/cut.py") 302, Value.int 27 0, Value.int 2 0, Value.int 0 0, Value.int 0 0, Value.int 3 0, Value.ref 91, Value.bool true, Value.int 181 0, Value.ref 92, Value.none, Value.ref 93, Value.ref 94, Value.ref 95, Value.int 305 0, Value.int 27 0, Value.str (Str.ofString "/claim/cut.py") 306]) #[]) ::
    (nat_lit 97, Obj.mk (Value.type "function") none (Data.func (FuncData.mk (Str.ofString "__init__") (Str.ofString "FlatScanner.__init__") a97 (FuncBody.stmts b97) s97 3 [] Value.none Value.none Value.none (Value.str (Str.ofString "fdsolve.flat") 278) none (Value.ref 96) Value.none 0)) #[]) ::
    (nat_lit 98, Obj.mk (Value.type "tuple") none (Data.seq #[]) #[]) ::
    (nat_lit 100, Obj.mk (Value.type "tuple") none (Data.seq #[Value.str (Str.ofString "self") 311]) #[]) ::
    (nat_lit 101, Obj.mk (Value.type "tuple") none (Data.seq #[]) #[]) ::
    (nat_lit 103, Obj.mk (Value.type "code") none (Data.fields #[Value.str (Str.ofString "sign") 308, Value.str (Str.ofString "FlatScanner.sign") 309, Value.str (Str.ofString "/claim/cut.py") 310, Value.int 31 0, Value.int 1 0, Value.int 0 0, Value.int 0 0, Value.int 3 0, Value.ref 98, Value.bool true, Value.int 181 0, Value.ref 99, Value.none, Value.ref 100, Value.ref 101, Value.ref 102, Value.int 312 0, Value.int 31 0, Value.str (Str.ofString "/claim/cut.py") 313]) #[]) ::
    (nat_lit 104, Obj.mk (Value.type "function") none (Data.func (FuncData.mk (Str.ofString "sign") (Str.ofString "FlatScanner.sign") a104 (FuncBody.stmts b104) s104 3 [] Value.none Value.none Value.none (Value.str (Str.ofString "fdsolve.flat") 278) none (Value.ref 103) Value.none 0)) #[]) ::
    (nat_lit 105, Obj.mk (Value.type "tuple") none (Data.seq #[]) #[]) ::
    (nat_lit 107, Obj.mk (Value.type "tuple") none (Data.seq #[Value.str (Str.ofString "self") 318, Value.str (Str.ofString "end") 319]) #[]) ::
    (nat_lit 108, Obj.mk (Value.type "tuple") none (Data.seq #[]) #[]) ::
    (nat_lit 110, Obj.mk (Value.type "code") none (Data.fields #[Value.str (Str.ofString "skip") 315, Value.str (Str.ofString "FlatScanner.skip") 316, Value.str (Str.ofString "/claim/cut.py") 317, Value.int 34 0, Value.int 1 0, Value.int 0 0, Value.int 0 0, Value.int 3 0, Value.ref 105, Value.bool true, Value.int 181 0, Value.ref 106, Value.none, Value.ref 107, Value.ref 108, Value.ref 109, Value.int 320 0, Value.int 34 0, Value.str (Str.ofString "/claim/cut.py") 321]) #[]) ::
    (nat_lit 111, Obj.mk (Value.type "function") none (Data.func (FuncData.mk (Str.ofString "skip") (Str.ofString "FlatScanner.skip") a111 (FuncBody.stmts b111) s111 3 [] Value.none Value.none Value.none (Value.str (Str.ofString "fdsolve.flat") 278) none (Value.ref 110) Value.none 0)) #[]) ::
    (nat_lit 112, Obj.mk (Value.type "tuple") none (Data.seq #[]) #[]) ::
    (nat_lit 114, Obj.mk (Value.type "tuple") none (Data.seq #[Value.str (Str.ofString "self") 326, Value.str (Str.ofString "signs") 327, Value.str (Str.ofString "begin") 328, Value.str (Str.ofString "spot") 329]) #[]) ::
    (nat_lit 115, Obj.mk (Value.type "tuple") none (Data.seq #[]) #[]) ::
    (nat_lit 117, Obj.mk (Value.type "code") none (Data.fields #[Value.str (Str.ofString "run_of") 323, Value.str (Str.ofString "FlatScanner.run_of") 324, Value.str (Str.ofString "/claim/cut.py") 325, Value.int 41 0, Value.int 2 0, Value.int 0 0, Value.int 0 0, Value.int 3 0, Value.ref 112, Value.bool true, Value.int 181 0, Value.ref 113, Value.none, Value.ref 114, Value.ref 115, Value.ref 116, Value.int 330 0, Value.int 41 0, Value.str (Str.ofString "/claim/cut.py") 331]) #[]) ::
    (nat_lit 118, Obj.mk (Value.type "function") none (Data.func (FuncData.mk (Str.ofString "run_of") (Str.ofString "FlatScanner.run_of") a118 (FuncBody.stmts b118) s118 3 [] Value.none Value.none Value.none (Value.str (Str.ofString "fdsolve.flat") 278) none (Value.ref 117) Value.none 0)) #[]) ::
    (nat_lit 119, Obj.mk (Value.type "tuple") none (Data.seq #[]) #[]) ::
    (nat_lit 121, Obj.mk (Value.type "tuple") none (Data.seq #[Value.str (Str.ofString "self") 336, Value.str (Str.ofString "begin") 337, Value.str (Str.ofString "pieces") 338, Value.str (Str.ofString "sign") 339]) #[]) ::
    (nat_lit 122, Obj.mk (Value.type "tuple") none (Data.seq #[]) #[]) ::
    (nat_lit 124, Obj.mk (Value.type "code") none (Data.fields #[Value.str (Str.ofString "quotation") 333, Value.str (Str.ofString "FlatScanner.quotation") 334, Value.str (Str.ofString "/claim/cut.py") 335, Value.int 48 0, Value.int 1 0, Value.int 0 0, Value.int 0 0, Value.int 3 0, Value.ref 119, Value.bool true, Value.int 181 0, Value.ref 120, Value.none, Value.ref 121, Value.ref 122, Value.ref 123, Value.int 340 0, Value.int 48 0, Value.str (Str.ofString "/claim/cut.py") 341]) #[]) ::
    (nat_lit 125, Obj.mk (Value.type "function") none (Data.func (FuncData.mk (Str.ofString "quotation") (Str.ofString "FlatScanner.quotation") a125 (FuncBody.stmts b125) s125 3 [] Value.none Value.none Value.none (Value.str (Str.ofString "fdsolve.flat") 278) none (Value.ref 124) Value.none 0)) #[]) ::
    (nat_lit 126, Obj.mk (Value.type "tuple") none (Data.seq #[]) #[]) ::
    (nat_lit 128, Obj.mk (Value.type "tuple") none (Data.seq #[Value.str (Str.ofString "self") 346, Value.str (Str.ofString "begin") 347, Value.str (Str.ofString "is_below") 348, Value.str (Str.ofString "digits") 349]) #[]) ::
    (nat_lit 129, Obj.mk (Value.type "tuple") none (Data.seq #[]) #[]) ::
    (nat_lit 131, Obj.mk (Value.type "code") none (Data.fields #[Value.str (Str.ofString "number") 343, Value.str (Str.ofString "FlatScanner.number") 344, Value.str (Str.ofString "/claim/cut.py") 345, Value.int 65 0, Value.int 1 0, Value.int 0 0, Value.int 0 0, Value.int 3 0, Value.ref 126, Value.bool true, Value.int 181 0, Value.ref 127, Value.none, Value.ref 128, Value.ref 129, Value.ref 130, Value.int 350 0, Value.int 65 0, Value.str (Str.ofString "/claim/cut.py") 351]) #[]) ::
    (nat_lit 132, Obj.mk (Value.type "function") none (Data.func (FuncData.mk (Str.ofString "number") (Str.ofString "FlatScanner.number") a132 (FuncBody.stmts b132) s132 3 [] Value.none Value.none Value.none (Value.str (Str.ofString "fdsolve.flat") 278) none (Value.ref 131) Value.none 0)) #[]) ::
    (nat_lit 133, Obj.mk (Value.type "tuple") none (Data.seq #[]) #[]) ::
    (nat_lit 135, Obj.mk (Value.type "tuple") none (Data.seq #[Value.str (Str.ofString "self") 356, Value.str (Str.ofString "begin") 357, Value.str (Str.ofString "sign") 358]) #[]) ::
    (nat_lit 136, Obj.mk (Value.type "tuple") none (Data.seq #[]) #[]) ::
    (nat_lit 138, Obj.mk (Value.type "code") none (Data.fields #[Value.str (Str.ofString "token") 353, Value.str (Str.ofString "FlatScanner.token") 354, Value.str (Str.ofString "/claim/cut.py") 355, Value.int 74 0, Value.int 1 0, Value.int 0 0, Value.int 0 0, Value.int 3 0, Value.ref 133, Value.bool true, Value.int 181 0, Value.ref 134, Value.none, Value.ref 135, Value.ref 136, Value.ref 137, Value.int 359 0, Value.int 74 0, Value.str (Str.ofString "/claim/cut.py") 360]) #[]) ::
    (nat_lit 139, Obj.mk (Value.type "function") none (Data.func (FuncData.mk (Str.ofString "token") (Str.ofString "FlatScanner.token") a139 (FuncBody.stmts b139) s139 3 [] Value.none Value.none Value.none (Value.str (Str.ofString "fdsolve.flat") 278) none (Value.ref 138) Value.none 0)) #[]) ::
    (nat_lit 140, Obj.mk (Value.type "tuple") none (Data.seq #[Value.str (Str.ofString "spot") 362, Value.str (Str.ofString "text") 363]) #[]) ::
    (nat_lit 141, Obj.mk (Value.type "dict") none (Data.dict #[DictEntry.mk (PyData.keyHash P (Str.ofString "__module__")) (Value.str (Str.ofString "__module__") 295) (Value.str (Str.ofString "fdsolve.flat") 278), DictEntry.mk (PyData.keyHash P (Str.ofString "__firstlineno__")) (Value.str (Str.ofString "__firstlineno__") 299) (Value.int 25 298), DictEntry.mk (PyData.keyHash P (Str.ofString "__init__")) (Value.str (Str.ofString "__init__") 307) (Value.ref 97), DictEntry.mk (PyData.keyHash P (Str.ofString "sign")) (Value.str (Str.ofString "sign") 314) (Value.ref 104), DictEntry.mk (PyData.keyHash P (Str.ofString "skip")) (Value.str (Str.ofString "skip") 322) (Value.ref 111), DictEntry.mk (PyData.keyHash P (Str.ofString "run_of")) (Value.str (Str.ofString "run_of") 332) (Value.ref 118), DictEntry.mk (PyData.keyHash P (Str.ofString "quotation")) (Value.str (Str.ofString "quotation") 342) (Value.ref 125), DictEntry.mk (PyData.keyHash P (Str.ofString "number")) (Value.str (Str.ofString "number") 352) (Value.ref 132), DictEntry.mk (PyData.keyHash P (Str.ofString "token")) (Value.str (Str.ofString "token") 361) (Value.ref 139), DictEntry.mk (PyData.keyHash P (Str.ofString "__static_attributes__")) (Value.str (Str.ofString "__static_attributes__") 364) (Value.ref 140), DictEntry.mk (PyData.keyHash P (Str.ofString "__dict__")) (Value.str (Str.ofString "__dict__") 366) (Value.ref 143), DictEntry.mk (PyData.keyHash P (Str.ofString "__weakref__")) (Value.str (Str.ofString "__weakref__") 368) (Value.ref 144), DictEntry.mk (PyData.keyHash P (Str.ofString "__doc__")) (Value.str (Str.ofString "__doc__") 369) Value.none] 4) #[]) ::
    (nat_lit 142, Obj.mk (Value.type "type") none (Data.cls (ClassData.mk (Str.ofString "FlatScanner") [Value.type "object"] [Value.ref 142, Value.type "object"] 141 (Str.ofString "FlatScanner") true [] [] false none false)) #[none, none, some (Value.str (Str.ofString "FlatScanner") 288), some (Value.str (Str.ofString "FlatScanner") 296), some (Value.builtin "object.__new__"), some (Value.bool true)]) ::
    (nat_lit 143, Obj.mk (Value.type "getset_descriptor") none (Data.fields #[Value.str (Str.ofString "__dict__") 365, Value.ref 142, Value.builtin "function.__dict__", Value.builtin "function.__dict__#set"]) #[]) ::
    (nat_lit 144, Obj.mk (Value.type "getset_descriptor") none (Data.fields #[Value.str (Str.ofString "__weakref__") 367, Value.ref 142, Value.builtin "ExceptionGroup.__weakref__", Value.none]) #[]) ::
    (nat_lit 147, Obj.mk (Value.type "list") none (Data.seq #[Value.str (Str.ofString " ") 374, Value.str (Str.ofString "\n") 375, Value.str (Str.ofString "\t \x0d") 376, Value.str (Str.ofString "% x\" y\n") 377, Value.str (Str.ofString "..") 378, Value.str (Str.ofString "(") 379, Value.str (Str.ofString ")") 380, Value.str (Str.ofString "[") 381, Value.str (Str.ofString "]") 382, Value.str (Str.ofString "{") 383, Value.str (Str.ofString "}") 384, Value.str (Str.ofString ",") 385, Value.str (Str.ofString ";") 386, Value.str (Str.ofString ":") 387, Value.str (Str.ofString "a") 388, Value.str (Str.ofString "X_1") 389, Value.str (Str.ofString "var") 390, Value.str (Str.ofString "0") 391, Value.str (Str.ofString "07") 392, Value.str (Str.ofString "-5") 393, Value.str (Str.ofString "12") 394, Value.str (Str.ofString "_") 395, Value.str (Str.ofString "\"p q\"") 396, Value.str (Str.ofString "\"\\n\\\"\\\\%\"") 397]) #[]) ::
    (nat_lit 148, Obj.mk (Value.type "list") none (Data.seq #[Value.str (Str.ofString "\"") 399, Value.str (Str.ofString "\\") 400, Value.str (Str.ofString ".") 401, Value.str (Str.ofString "-") 402, Value.str (Str.ofString "$") 403, Value.str (Str.ofString "%") 404, Value.str (Str.ofString "\"\\x\"") 405, Value.str (Str.ofString "\"a\nb\"") 406]) #[]) ::
    (nat_lit 149, Obj.mk (Value.type "tuple") none (Data.seq #[]) #[]) ::
    (nat_lit 151, Obj.mk (Value.type "tuple") none (Data.seq #[Value.str (Str.ofString "script") 411, Value.str (Str.ofString "cells") 412, Value.str (Str.ofString "pieces") 413, Value.str (Str.ofString "cell") 414, Value.str (Str.ofString "some") 415]) #[]) ::
    (nat_lit 152, Obj.mk (Value.type "tuple") none (Data.seq #[]) #[]) ::
    (nat_lit 154, Obj.mk (Value.type "code") none (Data.fields #[Value.str (Str.ofString "_law_text") 408, Value.str (Str.ofString "_law_text") 409, Value.str (Str.ofString "/claim/cut.py") 410, Value.int 95 0, Value.int 1 0, Value.int 0 0, Value.int 0 0, Value.int 3 0, Value.ref 149, Value.bool true, Value.int 181 0, Value.ref 150, Value.none, Value.ref 151, Value.ref 152, Value.ref 153, Value.int 416 0, Value.int 95 0, Value.str (Str.ofString "/claim/cut.py") 417]) #[]) ::
    (nat_lit 155, Obj.mk (Value.type "function") none (Data.func (FuncData.mk (Str.ofString "_law_text") (Str.ofString "_law_text") a155 (FuncBody.stmts b155) s155 3 [] Value.none Value.none Value.none (Value.str (Str.ofString "law_nz0006_01") 372) none (Value.ref 154) Value.none 0)) #[]) ::
    (nat_lit 156, Obj.mk (Value.type "tuple") none (Data.seq #[]) #[]) ::
    (nat_lit 158, Obj.mk (Value.type "tuple") none (Data.seq #[Value.str (Str.ofString "sign") 422]) #[]) ::
    (nat_lit 159, Obj.mk (Value.type "tuple") none (Data.seq #[]) #[]) ::
    (nat_lit 161, Obj.mk (Value.type "code") none (Data.fields #[Value.str (Str.ofString "_law_sort") 419, Value.str (Str.ofString "_law_sort") 420, Value.str (Str.ofString "/claim/cut.py") 421, Value.int 102 0, Value.int 1 0, Value.int 0 0, Value.int 0 0, Value.int 3 0, Value.ref 156, Value.bool true, Value.int 181 0, Value.ref 157, Value.none, Value.ref 158, Value.ref 159, Value.ref 160, Value.int 423 0, Value.int 102 0, Value.str (Str.ofString "/claim/cut.py") 424]) #[]) ::
    (nat_lit 162, Obj.mk (Value.type "function") none (Data.func (FuncData.mk (Str.ofString "_law_sort") (Str.ofString "_law_sort") a162 (FuncBody.stmts b162) s162 3 [] Value.none Value.none Value.none (Value.str (Str.ofString "law_nz0006_01") 372) none (Value.ref 161) Value.none 0)) #[]) ::
    (nat_lit 163, Obj.mk (Value.type "tuple") none (Data.seq #[]) #[]) ::
    (nat_lit 165, Obj.mk (Value.type "tuple") none (Data.seq #[Value.str (Str.ofString "signs") 429, Value.str (Str.ofString "total") 430, Value.str (Str.ofString "sign") 431]) #[]) ::
    (nat_lit 166, Obj.mk (Value.type "tuple") none (Data.seq #[]) #[]) ::
    (nat_lit 168, Obj.mk (Value.type "code") none (Data.fields #[Value.str (Str.ofString "_law_worth") 426, Value.str (Str.ofString "_law_worth") 427, Value.str (Str.ofString "/claim/cut.py") 428, Value.int 112 0, Value.int 1 0, Value.int 0 0, Value.int 0 0, Value.int 3 0, Value.ref 163, Value.bool true, Value.int 181 0, Value.ref 164, Value.none, Value.ref 165, Value.ref 166, Value.ref 167, Value.int 432 0, Value.int 112 0, Value.str (Str.ofString "/claim/cut.py") 433]) #[]) ::
    (nat_lit 169, Obj.mk (Value.type "function") none (Data.func (FuncData.mk (Str.ofString "_law_worth") (Str.ofString "_law_worth") a169 (FuncBody.stmts b169) s169 3 [] Value.none Value.none Value.none (Value.str (Str.ofString "law_nz0006_01") 372) none (Value.ref 168) Value.none 0)) #[]) ::
    (nat_lit 170, Obj.mk (Value.type "tuple") none (Data.seq #[]) #[]) ::
    (nat_lit 172, Obj.mk (Value.type "tuple") none (Data.seq #[Value.str (Str.ofString "machine") 438, Value.str (Str.ofString "sort") 439, Value.str (Str.ofString "mode") 440]) #[]) ::
    (nat_lit 173, Obj.mk (Value.type "tuple") none (Data.seq #[]) #[]) ::
    (nat_lit 175, Obj.mk (Value.type "code") none (Data.fields #[Value.str (Str.ofString "_law_leave") 435, Value.str (Str.ofString "_law_leave") 436, Value.str (Str.ofString "/claim/cut.py") 437, Value.int 118 0, Value.int 2 0, Value.int 0 0, Value.int 0 0, Value.int 3 0, Value.ref 170, Value.bool true, Value.int 181 0, Value.ref 171, Value.none, Value.ref 172, Value.ref 173, Value.ref 174, Value.int 441 0, Value.int 118 0, Value.str (Str.ofString "/claim/cut.py") 442]) #[]) ::
    (nat_lit 176, Obj.mk (Value.type "function") none (Data.func (FuncData.mk (Str.ofString "_law_leave") (Str.ofString "_law_leave") a176 (FuncBody.stmts b176) s176 3 [] Value.none Value.none Value.none (Value.str (Str.ofString "law_nz0006_01") 372) none (Value.ref 175) Value.none 0)) #[]) ::
    (nat_lit 177, Obj.mk (Value.type "tuple") none (Data.seq #[]) #[]) ::
    (nat_lit 179, Obj.mk (Value.type "tuple") none (Data.seq #[Value.str (Str.ofString "machine") 447, Value.str (Str.ofString "sign") 448, Value.str (Str.ofString "spot") 449, Value.str (Str.ofString "mode") 450]) #[]) ::
    (nat_lit 180, Obj.mk (Value.type "tuple") none (Data.seq #[]) #[]) ::
    (nat_lit 182, Obj.mk (Value.type "code") none (Data.fields #[Value.str (Str.ofString "_law_inside") 444, Value.str (Str.ofString "_law_inside") 445, Value.str (Str.ofString "/claim/cut.py") 446, Value.int 130 0, Value.int 3 0, Value.int 0 0, Value.int 0 0, Value.int 3 0, Value.ref 177, Value.bool true, Value.int 181 0, Value.ref 178, Value.none, Value.ref 179, Value.ref 180, Value.ref 181, Value.int 451 0, Value.int 130 0, Value.str (Str.ofString "/claim/cut.py") 452]) #[]) ::
    (nat_lit 183, Obj.mk (Value.type "function") none (Data.func (FuncData.mk (Str.ofString "_law_inside") (Str.ofString "_law_inside") a183 (FuncBody.stmts b183) s183 3 [] Value.none Value.none Value.none (Value.str (Str.ofString "law_nz0006_01") 372) none (Value.ref 182) Value.none 0)) #[]) ::
    (nat_lit 184, Obj.mk (Value.type "tuple") none (Data.seq #[]) #[]) ::
    (nat_lit 186, Obj.mk (Value.type "tuple") none (Data.seq #[Value.str (Str.ofString "machine") 457, Value.str (Str.ofString "sign") 458, Value.str (Str.ofString "sort") 459, Value.str (Str.ofString "spot") 460]) #[]) ::
    (nat_lit 187, Obj.mk (Value.type "tuple") none (Data.seq #[]) #[]) ::
    (nat_lit 189, Obj.mk (Value.type "code") none (Data.fields #[Value.str (Str.ofString "_law_outside") 454, Value.str (Str.ofString "_law_outside") 455, Value.str (Str.ofString "/claim/cut.py") 456, Value.int 154 0, Value.int 4 0, Value.int 0 0, Value.int 0 0, Value.int 3 0, Value.ref 184, Value.bool true, Value.int 181 0, Value.ref 185, Value.none, Value.ref 186, Value.ref 187, Value.ref 188, Value.int 461 0, Value.int 154 0, Value.str (Str.ofString "/claim/cut.py") 462]) #[]) ::
    (nat_lit 190, Obj.mk (Value.type "function") none (Data.func (FuncData.mk (Str.ofString "_law_outside") (Str.ofString "_law_outside") a190 (FuncBody.stmts b190) s190 3 [] Value.none Value.none Value.none (Value.str (Str.ofString "law_nz0006_01") 372) none (Value.ref 189) Value.none 0)) #[]) ::
    (nat_lit 191, Obj.mk (Value.type "tuple") none (Data.seq #[]) #[]) ::
    (nat_lit 193, Obj.mk (Value.type "tuple") none (Data.seq #[Value.str (Str.ofString "text") 467, Value.str (Str.ofString "machine") 468, Value.str (Str.ofString "spot") 469, Value.str (Str.ofString "sign") 470, Value.str (Str.ofString "sort") 471]) #[]) ::
    (nat_lit 194, Obj.mk (Value.type "tuple") none (Data.seq #[]) #[]) ::
    (nat_lit 196, Obj.mk (Value.type "code") none (Data.fields #[Value.str (Str.ofString "_law_machine") 464, Value.str (Str.ofString "_law_machine") 465, Value.str (Str.ofString "/claim/cut.py") 466, Value.int 165 0, Value.int 1 0, Value.int 0 0, Value.int 0 0, Value.int 3 0, Value.ref 191, Value.bool true, Value.int 181 0, Value.ref 192, Value.none, Value.ref 193, Value.ref 194, Value.ref 195, Value.int 472 0, Value.int 165 0, Value.str (Str.ofString "/claim/cut.py") 473]) #[]) ::
    (nat_lit 197, Obj.mk (Value.type "function") none (Data.func (FuncData.mk (Str.ofString "_law_machine") (Str.ofString "_law_machine") a197 (FuncBody.stmts b197) s197 3 [] Value.none Value.none Value.none (Value.str (Str.ofString "law_nz0006_01") 372) none (Value.ref 196) Value.none 0)) #[]) ::
    (nat_lit 198, Obj.mk (Value.type "tuple") none (Data.seq #[]) #[]) ::
    (nat_lit 200, Obj.mk (Value.type "tuple") none (Data.seq #[Value.str (Str.ofString "script") 478, Value.str (Str.ofString "text") 479, Value.str (Str.ofString "due") 480, Value.str (Str.ofString "fault") 481, Value.str (Str.ofString "scanner") 482, Value.str (Str.ofString "found") 483, Value.str (Str.ofString "spot") 484, Value.str (Str.ofString "lap") 485, Value.str (Str.ofString "told") 486]) #[]) ::
    (nat_lit 201, Obj.mk (Value.type "tuple") none (Data.seq #[]) #[]) ::
    (nat_lit 203, Obj.mk (Value.type "code") none (Data.fields #[Value.str (Str.ofString "law") 475, Value.str (Str.ofString "law") 476, Value.str (Str.ofString "/claim/cut.py") 477, Value.int 182 0, Value.int 1 0, Value.int 0 0, Value.int 0 0, Value.int 3 0, Value.ref 198, Value.bool true, Value.int 181 0, Value.ref 199, Value.none, Value.ref 200, Value.ref 201, Value.ref 202, Value.int 487 0, Value.int 182 0, Value.str (Str.ofString "/claim/cut.py") 488]) #[]) ::
    (nat_lit 204, Obj.mk (Value.type "function") none (Data.func (FuncData.mk (Str.ofString "law") (Str.ofString "law") a204 (FuncBody.stmts b204) s204 3 [] Value.none Value.none Value.none (Value.str (Str.ofString "law_nz0006_01") 372) none (Value.ref 203) Value.none 0)) #[]) :: []
theorem run47 : ∀ (w : World), (fun os => topGo treeTable pg w 11 (some (Value.ref 6)) 12 (Shared.mk (boot_heap (World.params w)) (Array.mk [] : Array GenState) boot_drawn boot_toks os) (topStub pg)) = fun os => some (Shared.mk (hd.heap_46 (World.params w)) (Array.mk [] : Array GenState) dr 187 os, Thread.mk (denote treeTable cd) cd (Pos.mk 0 0 0 0) [topFrame (Pos.mk 0 0 0 0)]) := fun w => by kernel_rfl
theorem run49 : ∀ (w : World), (fun os => segRun treeTable pg w 11 (some (Value.ref 6)) 1 1 (Shared.mk (hd.heap_46 (World.params w)) (Array.mk [] : Array GenState) dr 187 os) (blockOf (behindTheImports pg) hd.env_41 cd (Pos.mk 0 0 0 0) [topFrame (Pos.mk 0 0 0 0)])) = fun os => some (Flow.next, SharedT.abs (SharedT.mk (hd.tree_47 (World.params w)) 15 lf (Array.mk [] : Array GenState) dr 187 os), cd, Pos.mk 0 0 0 0) := fun w => by rw [Fast.te14374325043358763698, Fast.te14364793385576792824]; kernel_rfl
theorem run81 : ∀ (w : World), (fun os => segRunT treeTable pg w 11 (some (Value.ref 6)) 1 285 (SharedT.mk (hd.tree_47 (World.params w)) 15 lf (Array.mk [] : Array GenState) dr 187 os) (piecesOf hd.sts_49 hd.env_41 cd (Pos.mk 0 0 0 0) [topFrame (Pos.mk 0 0 0 0)])) = fun os => some (Flow.next, SharedT.mk (hd.tree_80 (World.params w)) 44 lf (Array.mk [] : Array GenState) dr 227 os, cd, Pos.mk 2 0 9 24) := fun w => by rw [Fast.te10110043849684766642, Fast.te14364793385576792824]; kernel_rfl
theorem run112 : ∀ (w : World), (fun os => segRunT treeTable pg w 11 (some (Value.ref 6)) 1 294 (SharedT.mk (hd.tree_80 (World.params w)) 44 lf (Array.mk [] : Array GenState) dr 227 os) (piecesOf hd.sts_81 hd.env_41 cd (Pos.mk 2 0 9 24) [topFrame (Pos.mk 0 0 0 0)])) = fun os => some (Flow.next, SharedT.mk (hd.tree_111 (World.params w)) 72 lf (Array.mk [] : Array GenState) dr 262 os, cd, Pos.mk 10 0 17 47) := fun w => by rw [Fast.te10110043849684766642, Fast.te14364793385576792824]; kernel_rfl
theorem run127 : ∀ (w : World), (fun os => segRunT treeTable pg w 11 (some (Value.ref 6)) 1 273 (SharedT.mk (hd.tree_111 (World.params w)) 72 lf (Array.mk [] : Array GenState) dr 262 os) (piecesOf hd.sts_112 hd.env_41 cd (Pos.mk 10 0 17 47) [topFrame (Pos.mk 0 0 0 0)])) = fun os => some (Flow.next, SharedT.mk (hd.tree_126 (World.params w)) 84 lf (Array.mk [] : Array GenState) dr 288 os, cd, Pos.mk 24 0 24 11) := fun w => by rw [Fast.te10110043849684766642, Fast.te14364793385576792824]; kernel_rfl
theorem run192 : ∀ (w : World), (fun os => segRunT treeTable pg w 11 (some (Value.ref 6)) 1 422 (SharedT.mk (hd.tree_126 (World.params w)) 84 lf (Array.mk [] : Array GenState) dr 288 os) (piecesOf hd.sts_127 hd.env_41 cd (Pos.mk 24 0 24 11) [topFrame (Pos.mk 0 0 0 0)])) = fun os => some (Flow.next, SharedT.mk (hd.tree_191 (World.params w)) 147 lf (Array.mk [] : Array GenState) dr 372 os, cd, Pos.mk 25 0 91 36) := fun w => by rw [Fast.te10110043849684766642, Fast.te14364793385576792824]; kernel_rfl
theorem run252 : ∀ (w : World), (fun os => segRunT treeTable pg w 11 (some (Value.ref 6)) 1 320 (SharedT.mk (hd.tree_191 (World.params w)) 147 lf (Array.mk [] : Array GenState) dr 372 os) (piecesOf hd.sts_192 hd.env_41 cd (Pos.mk 25 0 91 36) [topFrame (Pos.mk 0 0 0 0)])) = fun os => some (Flow.next, SharedT.mk (hd.tree_251 (World.params w)) 205 lf (Array.mk [] : Array GenState) dr 490 os, cd, Pos.mk 182 0 194 53) := fun w => by rw [Fast.te10110043849684766642, Fast.te14364793385576792824]; kernel_rfl
theorem run254 : ∀ (w : World), (fun os => topRun treeTable pg w 11 (some (Value.ref 6)) 2 (SharedT.abs (SharedT.mk (hd.tree_251 (World.params w)) 205 lf (Array.mk [] : Array GenState) dr 490 os)) (Thread.mk (doneF Flow.next) cd (Pos.mk 182 0 194 53) [topFrame (Pos.mk 0 0 0 0)])) = fun os => some (Shared.mk (hd.heap_252 (World.params w)) (Array.mk [] : Array GenState) dr 490 os) := fun w => by rw [Fast.te14082659384304107361, Fast.te14364793385576792824]; kernel_rfl
theorem run255 : ∀ (w : World) (os : OsState), topRun treeTable pg w 11 (some (Value.ref 6)) (Nat.add 12 (Nat.add 1 (Nat.add 285 (Nat.add 294 (Nat.add 273 (Nat.add 422 (Nat.add 320 2))))))) (Shared.mk (boot_heap (World.params w)) (Array.mk [] : Array GenState) boot_drawn boot_toks os) (topStub pg) = some (Shared.mk (hd.heap_252 (World.params w)) (Array.mk [] : Array GenState) dr 490 os) := fun w os =>
  go_top (congrFun (run47 w) os) (piece_block (congrFun (run49 w) os) (piece_app (l := hd.sts_49) (segRun_of (congrFun (run81 w) os)) (piece_app (l := hd.sts_81) (segRun_of (congrFun (run112 w) os)) (piece_app (l := hd.sts_112) (segRun_of (congrFun (run127 w) os)) (piece_app (l := hd.sts_127) (segRun_of (congrFun (run192 w) os)) (piece_app (l := hd.sts_192) (rest := []) (segRun_of (congrFun (run252 w) os)) (congrFun (run254 w) os)))))))
theorem run257 : ∀ (w : World), (Heap.isNs (boot_heap (World.params w)) mainGlobals && Array.size (Array.mk [] : Array GenState) == 0, Array.size (Heap.objs (boot_heap (World.params w))), Heap.nsMap (boot_heap (World.params w)) mainGlobals (Str.ofString "__annotations__")) = (true, 11, some (Value.ref 6)) := fun w => by kernel_rfl
noncomputable def addrs : List Addr := [2, 3, 15, 18, 23, 24, 26, 27, 29, 30, 31, 33, 34, 36, 37, 38, 39, 40, 41, 44, 47, 52, 53, 55, 56, 58, 59, 60, 62, 63, 65, 66, 67, 68, 69, 72, 79, 80, 81, 91, 93, 94, 96, 97, 98, 100, 101, 103, 104, 105, 107, 108, 110, 111, 112, 114, 115, 117, 118, 119, 121, 122, 124, 125, 126, 128, 129, 131, 132, 133, 135, 136, 138, 139, 140, 141, 142, 143, 144, 147, 148, 149, 151, 152, 154, 155, 156, 158, 159, 161, 162, 163, 165, 166, 168, 169, 170, 172, 173, 175, 176, 177, 179, 180, 182, 183, 184, 186, 187, 189, 190, 191, 193, 194, 196, 197, 198, 200, 201, 203, 204]
theorem addrs_eq : ∀ P, addrs = (hd.heap_39 P).map (·.1) := fun _ => by kernel_rfl
theorem look1 : ∀ (w : World), (fun os => staticsOk (importedModules (Module.body (Program.main pg))) (boot_heap (World.params w)) (hd.heap_252 (World.params w)) && namesBound pg (hd.heap_252 (World.params w)) && gensDone (Shared.mk (hd.heap_252 (World.params w)) (Array.mk [] : Array GenState) dr 490 os) && laidKept (boot_heap (World.params w)) (hd.heap_252 (World.params w))) = fun os => true := fun w => by kernel_rfl
theorem look2 : ∀ w : World, (fun os => openSeen hd.view_39 [Str.ofString "_law_good", Str.ofString "_law_odd"] (importedModules pg.main.body) (fun s => xlAt hd.view_39 [] s && recOk (RowW.records Challenge.rw_nz0006_01.row.toRowW) s) true ⟨hd.heap_252 w.params, Array.mk [], dr, 490, os⟩) = fun _ => openGood hd.view_39 [Str.ofString "_law_good", Str.ofString "_law_odd"] := fun w => by rw [Fast.te4187177175401517315]; kernel_rfl
theorem look3 : ∀ w : World, addrs.map (hd.heap_252 w.params).get? = (hd.heap_39 w.params).map fun p => some p.2 := fun w => by kernel_rfl
theorem left : LeftO pg hd.view_39 [Str.ofString "_law_good", Str.ofString "_law_odd"] (fun s => xlAt hd.view_39 [] s && recOk (RowW.records Challenge.rw_nz0006_01.row.toRowW) s) (fun s => addrs.map s.heap.get?) (fun w => (hd.heap_39 w.params).map fun p => some p.2) 3304 :=
  LeftO.of_pieces (boot_open (by kernel_rfl) (by decide) (fun s => by kernel_rfl)) run257 run255 (by decide) fun w => funext fun os => looks_pair (congrFun (look1 w) os) (looks_pair (congrFun (look2 w) os) (look3 w))
theorem said0 : looksOpen Challenge.rw_nz0006_01.row.prog = true := by rw [Fast.te12908688711261696721]; kernel_rfl
theorem said1 : Challenge.rw_nz0006_01.row.partSaid = true := by unfold OpenRow.partSaid; rw [said0]; kernel_rfl
theorem said2 : Challenge.rw_nz0006_01.row.wellSaid = true := by unfold OpenRow.wellSaid; rw [said1]; kernel_rfl
theorem said : Challenge.rw_nz0006_01.wellSaid = true := by unfold OpenLaw.wellSaid; rw [said2]; kernel_rfl
theorem hd {d : DefRec} {kwd : List (Str × Expr)} (hdef : defOf hd.view_39 Challenge.rw_nz0006_01.row.toRowW.name = some (d, kwd)) (hp : Challenge.rw_nz0006_01.row.prog.theDef Challenge.rw_nz0006_01.row.name = some (d.params, d.body, d.scope)) (hk : kwWritten? d.params.kwonlyargs d.params.kw_defaults = some kwd)
    (walk : WalkO hd.view_39 [Str.ofString "_law_good", Str.ofString "_law_odd"] (XL hd.view_39 []) (kHook hd.heap_39 addrs addrs_eq).says Challenge.rw_nz0006_01.row.toRowW d kwd fun f vs => call f vs) : Challenge.rw_nz0006_01.Holds := by
  w_on
  refine holds_law said fun said' => ?_
  refine holds_open (q := hd.view_39) (loose := [Str.ofString "_law_good", Str.ofString "_law_odd"]) (Xt := (fun s => xlAt hd.view_39 [] s && recOk (RowW.records Challenge.rw_nz0006_01.row.toRowW) s)) (XP := XL hd.view_39 []) (Yf := Hook.obs (kHook hd.heap_39 addrs addrs_eq)) (Ya := Hook.val (kHook hd.heap_39 addrs addrs_eq)) (YP := Hook.says (kHook hd.heap_39 addrs addrs_eq)) (N := 3304) left (Hook.of (kHook hd.heap_39 addrs addrs_eq)) (Hook.keeps (kHook hd.heap_39 addrs addrs_eq)) (fun s e => xl_of s (Bool.and_eq_true_iff.mp e).1) XL.keeps hdef hp hk (fun s e => recFacts_of (Bool.and_eq_true_iff.mp e).2) (by rfl) said' (by decide +kernel) ⟨rfl, rfl, rfl, rfl, rfl, by decide +kernel⟩ ?hw walk
  (case hw => w_witness2)
end
end
end Mine
namespace Mine
section
set_option maxHeartbeats 1000000
abbrev Led := List (Addr × Obj)
def Spec (w : World) (mean : ExcName → Option Value) (mg mb : Str → Option Value) (f : Addr) (args : List Value) (pre : Led) (d u : Nat) (post : Value → Led → Prop) : Prop :=
  ∀ (dp un : Nat) (gd : Option (List Code)) (cn : Str) (cs : Scope) (a : Addr) (ccd : Value) (cl : List (Str × Addr)) (outer : List Env) (A₀ : Around) (base h₀ : Heap) (L : Addr) (m : Str → Option Value) (s : Shared) (Q E : Value → Shared → Prop),
    Below A₀ base outer h₀ → Fr h₀ L s.heap m → (hd.heap_39 w.params).In h₀ → News h₀ L s.heap pre → Top hd.view_39 (looseW hd.view_39 [Str.ofString "_law_good", Str.ofString "_law_odd"]) mean mg mb h₀ → cs.kind = .function → dp + d < recursionLimit → un + u < cLine →
    (∀ v news' h' tk', post v news' → Fr h₀ L h' m → News h₀ L h' news' → Q v { s with heap := h', toks := tk' }) →
    wpAny (model PySem.Challenge.rw_nz0006_01.row.prog w) (ktrTop dp un gd cn cs L a ccd cl outer) (call (.ref f) args) Q E s
/-- a place where the walk is to halt -/
def Stop (P : Prop) : Prop := P
theorem Stop.of {P : Prop} (h : Stop P) : P := h
/-- what a frame's map is known to hold -/
def Pins (m : Str → Option Value) : List (Str × Value) → Prop
  | [] => True
  | (x, v) :: r => m x = some v ∧ Pins m r
def pinned (m : Str → Option Value) : List (Str × Value) → Str → Option Value
  | [] => m
  | (x, v) :: r => fun z => if z = x then some v else pinned m r z
theorem pinned_eq {m : Str → Option Value} : ∀ {l : List (Str × Value)}, Pins m l → pinned m l = m
  | [], _ => rfl
  | (x, v) :: r, ⟨e, h⟩ => by
    funext z
    show (if z = x then some v else pinned m r z) = m z
    rw [pinned_eq h]
    by_cases hz : z = x
    · rw [if_pos hz, hz, e]
    · rw [if_neg hz]
theorem fr_pins {h₀ h : Heap} {L : Addr} {m : Str → Option Value} {l : List (Str × Value)} (F : Fr h₀ L h m) (e : Pins m l) : Fr h₀ L h (pinned m l) := by rw [pinned_eq e]; exact F
abbrev scD (P : Params) (kt ks : Tok) (x : Str) (tx : Tok) (i : Int) (ti : Tok) : Obj :=
  dictOf [⟨PyData.keyHash P (Str.ofString "text"), .str (Str.ofString "text") kt, .str x tx⟩, ⟨PyData.keyHash P (Str.ofString "spot"), .str (Str.ofString "spot") ks, .int i ti⟩] 2
/-- a loop's way out: the frame's map and the ledger, of which Ex holds -/
def Out (h₀ : Heap) (L : Addr) (s : Shared) (Ex : (Str → Option Value) → Led → Prop) (s' : Shared) : Prop :=
  ∃ h' tk m' news', s' = { s with heap := h', toks := tk } ∧ Fr h₀ L h' m' ∧ News h₀ L h' news' ∧ Ex m' news'
def OutF (h₀ : Heap) (L : Addr) (s : Shared) (Ex : (Str → Option Value) → Led → Prop) (Q : Flow → Shared → Prop) (f : Flow) (s' : Shared) : Prop :=
  match f with
  | .ret v => Q (.ret v) s'
  | _ => Out h₀ L s Ex s'
def Again (h₀ : Heap) (L : Addr) (s : Shared) (J : Nat → (Str → Option Value) → Led → Prop) (n : Nat) (s' : Shared) : Prop :=
  ∃ h' tk m' news' n', s' = { s with heap := h', toks := tk } ∧ Fr h₀ L h' m' ∧ News h₀ L h' news' ∧ n' < n ∧ J n' m' news'
def TurnF (h₀ : Heap) (L : Addr) (s : Shared) (J : Nat → (Str → Option Value) → Led → Prop) (Ex : (Str → Option Value) → Led → Prop) (Q : Flow → Shared → Prop) (n : Nat) (f : Flow) (s' : Shared) : Prop :=
  match f with
  | .ret v => Q (.ret v) s'
  | .brk => Out h₀ L s Ex s'
  | _ => Again h₀ L s J n s'
section
variable {prog : Program} {w : World} {A : Around} {E : Value → Shared → Prop} {Q : Flow → Shared → Prop} {s : Shared} {env : Env} {h₀ : Heap} {L : Addr}
theorem while_cut {test : Expr} {body : List Stmt} {pos : Pos} {m : Str → Option Value} {news : Led} (J : Nat → (Str → Option Value) → Led → Prop) (Ex : (Str → Option Value) → Led → Prop) (n₀ : Nat)
    (F : Fr h₀ L s.heap m) (N : News h₀ L s.heap news) (hJ : J n₀ m news)
    (turn : ∀ n m₁ news₁ h₁ tk₁, Fr h₀ L h₁ m₁ → News h₀ L h₁ news₁ → J n m₁ news₁ →
      wpAny (model prog w) A (isTrue test env (eval test env)) (fun b s₂ =>
        if b = true then wpAny (model prog w) A (execs body env) (TurnF h₀ L s J Ex Q n) E s₂ else Out h₀ L s Ex s₂) E { s with heap := h₁, toks := tk₁ })
    (rest : ∀ h' tk m' news', Fr h₀ L h' m' → News h₀ L h' news' → Ex m' news' → Q .next { s with heap := h', toks := tk })
    (hE : PassesOwn (model prog w) A env E := by passes_own) :
    wpAny (model prog w) A (exec (.While test body [] pos) env) Q E s := by
  have key : ∀ s', Out h₀ L s Ex s' → Q .next s' := by
    rintro s' ⟨h', tk, m', news', rfl, F', N', e⟩
    exact rest _ _ _ _ F' N' e
  refine While_inv2 J F N hJ (fun n m₁ news₁ h₁ tk₁ F₁ N₁ j => ?_) hE
  refine wpAny_mono (turn n m₁ news₁ h₁ tk₁ F₁ N₁ j) (fun b s₂ h₂ => ?_) fun _ _ x => x
  cases b with
  | false => simpa using key _ (by simpa using h₂)
  | true =>
    simp only [if_true] at h₂ ⊢
    refine wpAny_mono h₂ (fun f s₃ h₃ => ?_) fun _ _ x => x
    cases f with
    | next => exact h₃
    | cont => exact h₃
    | brk => exact key _ h₃
    | ret v => exact h₃
end
end
end Mine
namespace Mine
section
/-! the machine of signs, said plainly -/
def sgn : Option Nat → Str
  | none => ⟨#[]⟩
  | some c => ⟨#[c]⟩
def isDig (c : Nat) : Bool := decide (48 ≤ c) && decide (c ≤ 57)
def isLet (c : Nat) : Bool := decide (c = 95) || (decide (97 ≤ c) && decide (c ≤ 122)) || (decide (65 ≤ c) && decide (c ≤ 90))
def isBlk (c : Nat) : Bool := [32, 9, 13, 10].contains c
def isMrk (c : Nat) : Bool := [40, 41, 91, 93, 123, 125, 44, 59, 58].contains c
def srt : Option Nat → Str
  | none => Str.ofString "end"
  | some c => if isDig c then Str.ofString "digit" else if isLet c then Str.ofString "letter" else if isBlk c then Str.ofString "blank" else if isMrk c then Str.ofString "mark" else ⟨#[c]⟩
structure MS where
  mode : Str
  held : Str
  found : List Dat
  beg : Int
  fault : Int
def tokS (k v : Str) (b : Int) : Dat := .tuple [.str k, .str v, .int b]
def tokN (n b : Int) : Dat := .tuple [.str (Str.ofString "number"), .int n, .int b]
def worthOf (l : List Nat) : Int := l.foldl (fun (t : Int) (c : Nat) => if c = 45 then t else 10 * t + ((c : Int) - 48)) 0
def worth (l : List Nat) : Int := if l.head? = some 45 then 0 - worthOf l else worthOf l
def leave (m : MS) (so : Str) : MS :=
  if (m.mode == Str.ofString "word") = true then
    (if (so == Str.ofString "letter") = true then m else if (so == Str.ofString "digit") = true then m
     else { m with found := m.found ++ [tokS (Str.ofString "word") m.held m.beg], mode := Str.ofString "" })
  else if (m.mode == Str.ofString "number") = true then
    (if (so == Str.ofString "digit") = true then m
     else { m with found := m.found ++ [tokN (worth m.held.cps.toList) m.beg], mode := Str.ofString "" })
  else if (m.mode == Str.ofString "minus") = true then
    (if (so == Str.ofString "digit") = true then { m with mode := Str.ofString "number" } else { m with mode := Str.ofString "number", fault := m.beg })
  else m
def inside (m : MS) (o : Option Nat) (spot : Int) : MS :=
  if (m.mode == Str.ofString "remark") = true then (if o = some 10 then { m with mode := Str.ofString "" } else m)
  else if (m.mode == Str.ofString "dot") = true then
    (if o = some 46 then { m with mode := Str.ofString "", found := m.found ++ [tokS (Str.ofString "sign") (Str.ofString "..") m.beg] }
     else { m with mode := Str.ofString "", fault := m.beg })
  else if (m.mode == Str.ofString "slash") = true then
    { m with mode := Str.ofString "quote", held := m.held ++ (if o = some 110 then ⟨#[10]⟩ else sgn o),
             fault := if o = some 110 ∨ o = some 34 ∨ o = some 92 then m.fault else spot - 1 }
  else if o = some 34 then { m with mode := Str.ofString "", found := m.found ++ [tokS (Str.ofString "text") m.held m.beg] }
  else if o = some 92 then { m with mode := Str.ofString "slash" }
  else if o = none ∨ o = some 10 then { m with fault := m.beg }
  else { m with held := m.held ++ sgn o }
def outside (m : MS) (o : Option Nat) (so : Str) (spot : Int) : MS :=
  if (so == Str.ofString "letter") = true then { m with beg := spot, held := sgn o, mode := Str.ofString "word" }
  else if (so == Str.ofString "digit") = true then { m with beg := spot, held := sgn o, mode := Str.ofString "number" }
  else if (so == Str.ofString "mark") = true then { m with beg := spot, held := sgn o, found := m.found ++ [tokS (Str.ofString "sign") (sgn o) spot] }
  else if (so == Str.ofString "%") = true then { m with beg := spot, held := Str.ofString "", mode := Str.ofString "remark" }
  else if (so == Str.ofString ".") = true then { m with beg := spot, held := Str.ofString "", mode := Str.ofString "dot" }
  else if (so == Str.ofString "-") = true then { m with beg := spot, held := Str.ofString "-", mode := Str.ofString "minus" }
  else if (so == Str.ofString "\"") = true then { m with beg := spot, held := Str.ofString "", mode := Str.ofString "quote" }
  else if (so == Str.ofString "blank") = true then { m with beg := spot, held := sgn o }
  else if (so == Str.ofString "end") = true then { m with beg := spot, held := sgn o }
  else { m with beg := spot, held := sgn o, fault := spot }
end
end Mine
namespace Mine
section
theorem dig_cases {c : Nat} (h : isDig c = true) : c = 48 ∨ c = 49 ∨ c = 50 ∨ c = 51 ∨ c = 52 ∨ c = 53 ∨ c = 54 ∨ c = 55 ∨ c = 56 ∨ c = 57 := by
  simp only [isDig, Bool.and_eq_true, decide_eq_true_eq] at h
  omega
theorem find_dig {c : Nat} (h : isDig c = true) : Txt.find (Str.ofString "0123456789") ⟨#[c]⟩ = (c : Int) - 48 := by
  rcases dig_cases h with rfl | rfl | rfl | rfl | rfl | rfl | rfl | rfl | rfl | rfl <;> decide +kernel
theorem occ_dig {c : Nat} : (PySem.Builtin.Str.occurrences (Str.ofString "0123456789") ⟨#[c]⟩ 0 (Str.ofString "0123456789").length 1).isEmpty = !isDig c := by
  have h := StrLaws.found_one (Str.ofString "0123456789") c
  have e : (Str.ofString "0123456789").cps.toList = [48, 49, 50, 51, 52, 53, 54, 55, 56, 57] := by decide +kernel
  rw [e] at h
  have hd : decide (c ∈ [48, 49, 50, 51, 52, 53, 54, 55, 56, 57]) = isDig c := by
    simp only [isDig, ← Bool.decide_and]
    apply decide_eq_decide.mpr
    simp only [List.mem_cons, List.not_mem_nil, or_false]
    omega
  rw [hd] at h
  rw [← h, Bool.not_not]
theorem one_ne {c d : Nat} (h : c ≠ d) : ((⟨#[c]⟩ : Str) == ⟨#[d]⟩) = false := by
  rw [beq_eq_false_iff_ne]
  intro e
  injection e with e
  injection e with e
  injection e with e
  exact h e
theorem worth_snoc (l : List Nat) (c : Nat) : worthOf (l ++ [c]) = if c = 45 then worthOf l else 10 * worthOf l + ((c : Int) - 48) := by
  unfold worthOf; rw [List.foldl_append]; rfl
theorem slice_any (x : Str) {a b : Nat} (hab : a ≤ b) (ha : a ≤ x.length) : Txt.slice x (some (a : Int)) (some (b : Int)) = ⟨((x.cps.toList.drop a).take (b - a)).toArray⟩ := by
  have hl : x.cps.toList.length = x.length := by simp [Str.length]
  by_cases hb : b ≤ x.length
  · exact StrLaws.sliceText_nat x hab hb
  · have e : PySem.Builtin.Str.strSliceIndices (some (a : Int)) (some (b : Int)) 1 x.length = PySem.Builtin.Str.strSliceIndices (some (a : Int)) (some ((x.length : Nat) : Int)) 1 x.length := by
      have h1 : max (0 : Int) (min (b : Int) (x.length : Int)) = (x.length : Int) := by omega
      have h2 : max (0 : Int) (min (x.length : Int) (x.length : Int)) = (x.length : Int) := by omega
      have h3 : ¬ ((b : Int) < 0) := by omega
      have h4 : ¬ ((x.length : Int) < 0) := by omega
      simp only [PySem.Builtin.Str.strSliceIndices, h3, h4, if_false, show (1 : Int) > 0 by decide, if_true, h1, h2]
    have h : Txt.slice x (some (a : Int)) (some (b : Int)) = Txt.slice x (some (a : Int)) (some ((x.length : Nat) : Int)) := by
      unfold Txt.slice
      rw [e]
    rw [h, show Txt.slice x (some (a : Int)) (some ((x.length : Nat) : Int)) = StrLaws.sliceText x (some (a : Int)) (some ((x.length : Nat) : Int)) from rfl, StrLaws.sliceText_nat x ha (Nat.le_refl _)]
    rw [List.take_of_length_le (by rw [List.length_drop]; omega), List.take_of_length_le (by rw [List.length_drop]; omega)]
theorem take_one (l : List Nat) (i : Nat) : (l.drop i).take 1 = match l[i]? with | none => [] | some c => [c] := by
  cases h : l[i]? with
  | none => rw [List.drop_eq_nil_of_le (List.getElem?_eq_none_iff.mp h)]; rfl
  | some c =>
    obtain ⟨hi, e⟩ := List.getElem?_eq_some_iff.mp h
    rw [List.drop_eq_getElem_cons hi, e]; rfl
theorem slice_sgn (x : Str) {i : Nat} (hi : i ≤ x.length) : Txt.slice x (some (i : Int)) (some ((i : Int) + 1)) = sgn x.cps.toList[i]? := by
  have := slice_any x (Nat.le_succ i) hi
  rw [show ((i.succ : Nat) : Int) = (i : Int) + 1 from rfl] at this
  rw [this, show i.succ - i = 1 by omega, take_one]
  cases x.cps.toList[i]? <;> rfl
theorem slice_head (x : Str) : Txt.slice x none (some 1) = sgn x.cps.toList.head? := by
  have h : Txt.slice x none (some 1) = Txt.slice x (some ((0 : Nat) : Int)) (some (((0 : Nat) : Int) + 1)) := by
    unfold Txt.slice
    rw [StrLaws.sliceIdx_none_lo]
    rfl
  rw [h, slice_sgn x (Nat.zero_le _), List.head?_eq_getElem?]
theorem sgn_eq {o : Option Nat} {c : Nat} : (sgn o == ⟨#[c]⟩) = decide (o = some c) := by
  cases o with
  | none => rw [show decide ((none : Option Nat) = some c) = false from rfl, beq_eq_false_iff_ne]; intro e; injection e with e; injection e with e; cases e
  | some d =>
    by_cases h : d = c
    · subst h; simp [sgn]
    · rw [sgn, one_ne h]; simp [h]
end
end Mine
namespace Mine
section
theorem occ_one (x : Str) (l : List Nat) (e : x.cps.toList = l) (c : Nat) : (PySem.Builtin.Str.occurrences x ⟨#[c]⟩ 0 x.length 1).isEmpty = !l.contains c := by
  have h := StrLaws.found_one x c
  rw [e] at h
  rw [List.contains_eq_mem, ← h, Bool.not_not]
theorem occ_blk (c : Nat) : (PySem.Builtin.Str.occurrences (Str.ofString " \t\r\n") ⟨#[c]⟩ 0 (Str.ofString " \t\r\n").length 1).isEmpty = !isBlk c := occ_one _ _ (by decide +kernel) c
theorem occ_mrk (c : Nat) : (PySem.Builtin.Str.occurrences (Str.ofString "()[]{},;:") ⟨#[c]⟩ 0 (Str.ofString "()[]{},;:").length 1).isEmpty = !isMrk c := occ_one _ _ (by decide +kernel) c
theorem lt_one {x y : Str} {c d : Nat} (ex : x.cps.toList = [c]) (ey : y.cps.toList = [d]) : (x.cps.toList < y.cps.toList) ↔ c < d := by
  rw [ex, ey]
  constructor
  · intro h
    cases h with
    | rel h => exact h
    | cons h => exact absurd h (List.not_lt_nil _)
  · intro h
    exact .rel h
theorem one_empty (c : Nat) : ((⟨#[c]⟩ : Str) == Str.ofString "") = false := by
  rw [beq_eq_false_iff_ne]; intro e; injection e with e; injection e with e; cases e
end
end Mine
namespace Mine
section
/-- what the machine's dict holds -/
def MK (mo : Value) (l : Addr) (he be fa : Value) : List (Str × Value) :=
  [(Str.ofString "mode", mo), (Str.ofString "found", .ref l), (Str.ofString "held", he), (Str.ofString "begin", be), (Str.ofString "fault", fa)]
section
variable {prog : Program} {w : World} {A : Around} {E : Value → Shared → Prop} {s : Shared} {h₀ : Heap} {L d : Addr} {m : Str → Option Value} {news : Led} {g : Obj → Led} {o : Obj} {kvs : List (Str × Value)} {key : Str} {v : Value} {t : Tok}
theorem mget {value slice : Expr} {Q : Value → Shared → Prop} (N : News h₀ L s.heap news) (hm : (d, o) ∈ news) (hd : o.IsDictOf (PySem.strKind prog w) kvs) (hv : valueAt kvs key = some v) (h : Q v { s with toks := s.toks + 1 })
    (hs : subscripted slice false (.ref d) (.str key t) = operate [.ref d, .str key t] (getItem (.ref d) (.str key t)) := by with_unfolding_all rfl) :
    wpAny (model prog w) A (subscriptTail value slice (.ref d) (.str key t)) Q E s :=
  have hD : s.heap.DictOf (PySem.strKind prog w) d kvs := Heap.dictOf_iff.mpr ⟨o, (N _ hm).1, hd⟩
  tail_any hD.typeIs slot_dict_getitem.lookup (wpAny_getItem_of (PySem.strKind_is prog w key t) hD.mapOf hv h) hs
theorem mput {Q : Unit → Shared → Prop} (F : Fr h₀ L s.heap m) (N : News h₀ L s.heap news) (U : UpdF d o news g) (hd : o.IsDictOf (PySem.strKind prog w) kvs) (hsz : kvs.length ≤ sizeLine)
    (h : ∀ h' o', Fr h₀ L h' m → News h₀ L h' (g o') → o'.IsDictOf (PySem.strKind prog w) (stored kvs key v) → Q () { s with heap := h', toks := s.toks + 1 }) :
    wpAny (model prog w) A (setItem (.ref d) (.str key t) v) Q E s := by
  obtain ⟨pre, post, rfl, hg, a, b⟩ := U.split
  have hm := N (d, o) (List.mem_append_right _ (.head _))
  refine wpAny_setItem_pairs (hsz := hsz) (PySem.strKind_is prog w key t) (Heap.dictOf_iff.mpr ⟨o, hm.1, hd⟩) fun h' hmm hs => ?_
  obtain ⟨o', ho', hd'⟩ := Heap.dictOf_iff.mp hmm
  exact h h' o' (F.change hs hm.2.1 hm.2.2) (hg o' ▸ N.setIn a b hs ho') hd'
theorem mk_size {mo he be fa : Value} {l : Addr} : (MK mo l he be fa).length ≤ sizeLine := by rw [sizeLine_eq]; show 5 ≤ 16777216; decide
variable {mo he be fa : Value} {l : Addr} {Q : Unit → Shared → Prop}
theorem st_mode : stored (MK mo l he be fa) (Str.ofString "mode") v = MK v l he be fa := by rfl
theorem st_held : stored (MK mo l he be fa) (Str.ofString "held") v = MK mo l v be fa := by rfl
theorem st_begin : stored (MK mo l he be fa) (Str.ofString "begin") v = MK mo l he v fa := by rfl
theorem st_fault : stored (MK mo l he be fa) (Str.ofString "fault") v = MK mo l he be v := by rfl
theorem mput_mode (F : Fr h₀ L s.heap m) (N : News h₀ L s.heap news) (U : UpdF d o news g) (hd : o.IsDictOf (PySem.strKind prog w) (MK mo l he be fa))
    (h : ∀ h' o', Fr h₀ L h' m → News h₀ L h' (g o') → o'.IsDictOf (PySem.strKind prog w) (MK v l he be fa) → Q () { s with heap := h', toks := s.toks + 1 }) :
    wpAny (model prog w) A (setItem (.ref d) (.str (Str.ofString "mode") t) v) Q E s := mput F N U hd mk_size (by rw [st_mode]; exact h)
theorem mput_held (F : Fr h₀ L s.heap m) (N : News h₀ L s.heap news) (U : UpdF d o news g) (hd : o.IsDictOf (PySem.strKind prog w) (MK mo l he be fa))
    (h : ∀ h' o', Fr h₀ L h' m → News h₀ L h' (g o') → o'.IsDictOf (PySem.strKind prog w) (MK mo l v be fa) → Q () { s with heap := h', toks := s.toks + 1 }) :
    wpAny (model prog w) A (setItem (.ref d) (.str (Str.ofString "held") t) v) Q E s := mput F N U hd mk_size (by rw [st_held]; exact h)
theorem mput_begin (F : Fr h₀ L s.heap m) (N : News h₀ L s.heap news) (U : UpdF d o news g) (hd : o.IsDictOf (PySem.strKind prog w) (MK mo l he be fa))
    (h : ∀ h' o', Fr h₀ L h' m → News h₀ L h' (g o') → o'.IsDictOf (PySem.strKind prog w) (MK mo l he v fa) → Q () { s with heap := h', toks := s.toks + 1 }) :
    wpAny (model prog w) A (setItem (.ref d) (.str (Str.ofString "begin") t) v) Q E s := mput F N U hd mk_size (by rw [st_begin]; exact h)
theorem mput_fault (F : Fr h₀ L s.heap m) (N : News h₀ L s.heap news) (U : UpdF d o news g) (hd : o.IsDictOf (PySem.strKind prog w) (MK mo l he be fa))
    (h : ∀ h' o', Fr h₀ L h' m → News h₀ L h' (g o') → o'.IsDictOf (PySem.strKind prog w) (MK mo l he be v) → Q () { s with heap := h', toks := s.toks + 1 }) :
    wpAny (model prog w) A (setItem (.ref d) (.str (Str.ofString "fault") t) v) Q E s := mput F N U hd mk_size (by rw [st_fault]; exact h)
end
end
end Mine
namespace Mine
section
set_option maxHeartbeats 1000000
/-- the end of a turn of a for -/
def EndI (h₀ : Heap) (L : Addr) (J : (Str → Option Value) → Led → Prop) (own : Led) (s₁ s₂ : Shared) : Prop :=
  ∃ h' tk m' news' nx, s₂ = { s₁ with heap := h', toks := tk } ∧ Fr h₀ L h' m' ∧ News h₀ L h' news' ∧ (∀ p ∈ nx, p ∈ news') ∧ (∀ p ∈ own, p ∈ news') ∧ OwnOff own (nx.map (·.1)) ∧ J m' nx
def EndF (h₀ : Heap) (L : Addr) (J : (Str → Option Value) → Led → Prop) (Ex : (Str → Option Value) → Led → Prop) (own : Led) (s s₁ : Shared) (Q : Flow → Shared → Prop) (f : Flow) (s₂ : Shared) : Prop :=
  match f with
  | .ret v => Q (.ret v) s₂
  | .brk => Out h₀ L s Ex s₂
  | _ => EndI h₀ L J own s₁ s₂
def EndT (h₀ : Heap) (L : Addr) (J : (Str → Option Value) → Prop) (led : Led) (s : Shared) (Q : Flow → Shared → Prop) (f : Flow) (s₂ : Shared) : Prop :=
  match f with
  | .ret v => Q (.ret v) s₂
  | .brk => Q .next s₂
  | _ => ∃ h' tk' m', s₂ = { s with heap := h', toks := tk' } ∧ Fr h₀ L h' m' ∧ News h₀ L h' led ∧ J m'
section
variable {prog : Program} {w : World} {A : Around} {E : Value → Shared → Prop} {s : Shared} {env : Env} {h₀ : Heap} {x : Str} {body : List Stmt} {Q : Flow → Shared → Prop}
theorem range_cut {r : Addr} {b₀ : Int} {t₀ u₀ v₀ : Tok} (n : Nat) {m₀ : Str → Option Value} {news : Led} {L : Addr} (J : Nat → (Str → Option Value) → Led → Prop) (Ex : (Str → Option Value) → Led → Prop)
    (hL : env.locals = L) (hh : A.handled = none) (hr : IsRange s.heap r 0 b₀ 1 t₀ u₀ v₀) (hsmall : Builtin.Range.small 0 b₀ 1 = true) (hsz : Builtin.Range.rangeSize 0 b₀ 1 = (n : Int))
    (F : Fr h₀ L s.heap m₀) (N : News h₀ L s.heap news) (hj : J 0 m₀ news)
    (turn : ∀ i t m₁ nx h tk own, i < n → OwnOff own (nx.map (·.1)) → J i m₁ nx → Fr h₀ L h (fun y => if y = x then some (.int (i : Int) t) else m₁ y) → News h₀ L h (nx ++ own) →
      wpAny (model prog w) A (execs body env) (EndF h₀ L (J (i + 1)) Ex own s { s with heap := h, toks := tk } Q) E { s with heap := h, toks := tk })
    (last : ∀ m nx, J n m nx → Ex m nx)
    (rest : ∀ h' tk m' news', Fr h₀ L h' m' → News h₀ L h' news' → Ex m' news' → Q .next { s with heap := h', toks := tk }) :
    wpAny (model prog w) A (pyIter (.ref r)) (fun it s₂ => LoopAtV prog w A h₀ env x body Q E it s₂) E s := by
  subst hL
  refine wpAny_pyIter_range hr hsmall ?_
  have W := Walks.range (prog := prog) (w := w) hh s.heap.objs.size 0 1 n
  have hst : IsRangeIter (s.heap.push { cls := .type "range_iterator", data := .fields #[rawInt 0, rawInt (Builtin.Range.rangeSize 0 b₀ 1), rawInt 1] }) s.heap.objs.size (0 + ((0 : Nat) : Int) * 1) ((n : Int) - ((0 : Nat) : Int)) 1 := by
    rw [hsz]; simpa using Heap.get?_push_size _ rfl
  refine kdr_loop J W.bound (fun _ h => h) (fun _ h => h) ?_ ?_ ?_ ?_ hst (F.push _) (fun p hp => ⟨Heap.get?_push_of_some _ (N p hp).1, (N p hp).2⟩) hj ?_ ?_
  · intro i h hi b hb
    rw [List.mem_singleton.mp hb]
    exact ⟨_, hi⟩
  · intro hm
    exact absurd F.ns.lt ((List.mem_singleton.mp hm) ▸ Nat.lt_irrefl _)
  · intro b hb
    rw [List.mem_singleton.mp hb]
    exact next_is_new F
  · intro p hp hI
    exact absurd (Heap.lt_size (N p hp).1) ((List.mem_singleton.mp hI) ▸ Nat.lt_irrefl _)
  · rintro i v m₁ nx h tk own hi ⟨_, t, rfl⟩ hoff j F₁ N₁
    have e1 : (0 : Int) + (i : Int) * 1 = (i : Int) := by omega
    rw [e1] at F₁
    refine wpAny_mono (turn i t m₁ nx h tk own hi hoff j F₁ N₁) (fun f s₂ p => ?_) fun _ _ e => e
    cases f with
    | ret v => exact p
    | brk =>
      obtain ⟨h', tk', m', news', rfl, F', N', e⟩ := p
      exact rest _ _ _ _ F' N' e
    | next => exact p
    | cont => exact p
  · intro m₁ nx h tk j F₁ N₁
    exact rest _ _ _ _ F₁ N₁ (last _ _ j)
theorem text_cut {xt : Str} {tx : Tok} {m₀ : Str → Option Value} {news : Led} {L : Addr} (J : Nat → (Str → Option Value) → Prop) (hL : env.locals = L)
    (hh : A.handled = none) (F : Fr h₀ L s.heap m₀) (N : News h₀ L s.heap news) (hj : J 0 m₀)
    (turn : ∀ i c t m₁ h tk own, xt.cps[i]? = some c → J i m₁ → Fr h₀ L h (fun y => if y = x then some (.str ⟨#[c]⟩ t) else m₁ y) → News h₀ L h (news ++ own) →
      wpAny (model prog w) A (execs body env) (EndT h₀ L (J (i + 1)) (news ++ own) s Q) E { s with heap := h, toks := tk })
    (done : ∀ m₁ h tk, J xt.cps.size m₁ → Fr h₀ L h m₁ → News h₀ L h news → Q .next { s with heap := h, toks := tk }) :
    wpAny (model prog w) A (pyIter (.str xt tx)) (fun it s₂ => LoopAtV prog w A h₀ env x body Q E it s₂) E s := by
  subst hL
  refine wpAny_pyIter_str fun o St hW hst => ?_
  have W := hW A hh
  refine loop_invN (fun i m nx => nx = news ∧ J i m) W ?_ ?_ ?_ ?_ hst (F.push _) (fun p hp => ⟨Heap.get?_push_of_some _ (N p hp).1, (N p hp).2⟩) ⟨rfl, hj⟩ ?_ ?_
  · intro hm
    exact absurd F.ns.lt ((List.mem_singleton.mp hm) ▸ Nat.lt_irrefl _)
  · intro b' hb
    rw [List.mem_singleton.mp hb]
    exact next_is_new F
  · intro p hp hI
    exact absurd (Heap.lt_size (N p hp).1) ((List.mem_singleton.mp hI) ▸ Nat.lt_irrefl _)
  · intro p hp hI
    exact absurd (Heap.lt_size (N p hp).1) ((List.mem_singleton.mp hI) ▸ Nat.lt_irrefl _)
  · rintro i v m₁ nx h tk own hi ⟨c, u, hn, rfl⟩ _ hoff ⟨rfl, j⟩ F₁ N₁
    refine wpAny_mono (turn i c u m₁ h tk own hn j F₁ N₁) (fun f s₂ p => ?_) fun _ _ e => e
    cases f with
    | ret v => exact p
    | brk => exact p
    | next =>
      obtain ⟨h', tk', m', rfl, F', N', j'⟩ := p
      exact ⟨h', tk', m', _, nx, rfl, F', N', fun p hp => List.mem_append_left _ hp, fun p hp => List.mem_append_right _ hp, rfl, rfl, j'⟩
    | cont =>
      obtain ⟨h', tk', m', rfl, F', N', j'⟩ := p
      exact ⟨h', tk', m', _, nx, rfl, F', N', fun p hp => List.mem_append_left _ hp, fun p hp => List.mem_append_right _ hp, rfl, rfl, j'⟩
  · rintro m₁ nx h tk ⟨rfl, j⟩ F₁ N₁
    exact done _ _ _ j F₁ N₁
theorem list_cut {l : Addr} {vs : List Value} {nn : Nat} {m₀ : Str → Option Value} {news : Led} {L : Addr} (J : Nat → (Str → Option Value) → Led → Prop) (hL : env.locals = L)
    (hh : A.handled = none) (hl : (l, listOf vs.toArray nn) ∈ news) (F : Fr h₀ L s.heap m₀) (N : News h₀ L s.heap news) (hj : J 0 m₀ news)
    (turn : ∀ i v m₁ news₁ h tk own, vs[i]? = some v → OwnOff own (news₁.map (·.1)) → (l, listOf vs.toArray nn) ∈ news₁ → J i m₁ news₁ → Fr h₀ L h (fun y => if y = x then some v else m₁ y) → News h₀ L h (news₁ ++ own) →
      wpAny (model prog w) A (execs body env) (InvPostG h₀ L (fun m' nx => (l, listOf vs.toArray nn) ∈ nx ∧ J (i + 1) m' nx) own { s with heap := h, toks := tk } Q) E { s with heap := h, toks := tk })
    (done : ∀ m₁ news₁ h tk, J vs.length m₁ news₁ → Fr h₀ L h m₁ → News h₀ L h news₁ → Q .next { s with heap := h, toks := tk }) :
    wpAny (model prog w) A (pyIter (.ref l)) (fun it s₂ => LoopAtV prog w A h₀ env x body Q E it s₂) E s := by
  subst hL
  exact kdl_iter J hh hl F N hj turn done
end
end
end Mine
namespace Mine
section
theorem fresh_SortS : True := by w_top off; trivial
set_option maxHeartbeats 1000000
theorem srt_dig (c : Nat) (h1 : (PySem.Builtin.Str.occurrences (Str.ofString "0123456789") ⟨#[c]⟩ 0 (Str.ofString "0123456789").length 1).isEmpty = false) : srt (some c) = Str.ofString "digit" := by
  rw [occ_dig] at h1
  unfold srt; dsimp only
  rw [if_pos (by revert h1; cases isDig c <;> simp)]
section
variable (c : Nat) (h1 : (PySem.Builtin.Str.occurrences (Str.ofString "0123456789") ⟨#[c]⟩ 0 (Str.ofString "0123456789").length 1).isEmpty = true)
include h1
theorem srt_nd : isDig c = false := by
  rw [occ_dig] at h1
  revert h1; cases isDig c <;> simp
theorem srt_l1 (h2 : ((⟨#[c]⟩ : Str) == Str.ofString "_") = true) : srt (some c) = Str.ofString "letter" := by
  have e : c = 95 := by
    have := eq_of_beq h2
    injection this with this; injection this with this; injection this with this
  subst e; decide +kernel
theorem srt_let (h2 : isLet c = true) : srt (some c) = Str.ofString "letter" := by
  unfold srt; dsimp only
  rw [srt_nd c h1, h2]; rfl
theorem srt_l2 (h2 : ¬ (({ cps := #[c] } : Str).cps.toList < (Str.ofString "a").cps.toList)) (h3 : ¬ ((Str.ofString "z").cps.toList < ({ cps := #[c] } : Str).cps.toList)) : srt (some c) = Str.ofString "letter" := by
  apply srt_let c h1
  rw [lt_one (d := 97) rfl (by decide +kernel)] at h2
  rw [lt_one (c := 122) (by decide +kernel) rfl] at h3
  have e : 97 ≤ c ∧ c ≤ 122 := by omega
  simp [isLet, e.1, e.2]
theorem srt_l3 (h2 : ¬ (({ cps := #[c] } : Str).cps.toList < (Str.ofString "A").cps.toList)) (h3 : ¬ ((Str.ofString "Z").cps.toList < ({ cps := #[c] } : Str).cps.toList)) : srt (some c) = Str.ofString "letter" := by
  apply srt_let c h1
  rw [lt_one (d := 65) rfl (by decide +kernel)] at h2
  rw [lt_one (c := 90) (by decide +kernel) rfl] at h3
  have e : 65 ≤ c ∧ c ≤ 90 := by omega
  simp [isLet, e.1, e.2]
variable (g1 : ((⟨#[c]⟩ : Str) == Str.ofString "_") = false)
  (g2 : (({ cps := #[c] } : Str).cps.toList < (Str.ofString "a").cps.toList) ∨ ((Str.ofString "z").cps.toList < ({ cps := #[c] } : Str).cps.toList))
  (g3 : (({ cps := #[c] } : Str).cps.toList < (Str.ofString "A").cps.toList) ∨ ((Str.ofString "Z").cps.toList < ({ cps := #[c] } : Str).cps.toList))
include g1 g2 g3
theorem srt_nl : isLet c = false := by
  rw [lt_one (d := 97) rfl (by decide +kernel), lt_one (c := 122) (by decide +kernel) rfl] at g2
  rw [lt_one (d := 65) rfl (by decide +kernel), lt_one (c := 90) (by decide +kernel) rfl] at g3
  have e : c ≠ 95 := by
    rintro rfl; revert g1; decide +kernel
  unfold isLet
  simp only [← Bool.decide_and, ← Bool.decide_or, decide_eq_false_iff_not]
  omega
theorem srt_blk (h : (PySem.Builtin.Str.occurrences (Str.ofString " \t\r\n") ⟨#[c]⟩ 0 (Str.ofString " \t\r\n").length 1).isEmpty = false) : srt (some c) = Str.ofString "blank" := by
  rw [occ_blk] at h
  unfold srt; dsimp only
  rw [srt_nd c h1, srt_nl c h1 g1 g2 g3, show isBlk c = true by revert h; cases isBlk c <;> simp]; rfl
theorem srt_mrk (h : (PySem.Builtin.Str.occurrences (Str.ofString " \t\r\n") ⟨#[c]⟩ 0 (Str.ofString " \t\r\n").length 1).isEmpty = true) (h' : (PySem.Builtin.Str.occurrences (Str.ofString "()[]{},;:") ⟨#[c]⟩ 0 (Str.ofString "()[]{},;:").length 1).isEmpty = false) : srt (some c) = Str.ofString "mark" := by
  rw [occ_blk] at h
  rw [occ_mrk] at h'
  unfold srt; dsimp only
  rw [srt_nd c h1, srt_nl c h1 g1 g2 g3, show isBlk c = false by revert h; cases isBlk c <;> simp, show isMrk c = true by revert h'; cases isMrk c <;> simp]; rfl
theorem srt_oth (h : (PySem.Builtin.Str.occurrences (Str.ofString " \t\r\n") ⟨#[c]⟩ 0 (Str.ofString " \t\r\n").length 1).isEmpty = true) (h' : (PySem.Builtin.Str.occurrences (Str.ofString "()[]{},;:") ⟨#[c]⟩ 0 (Str.ofString "()[]{},;:").length 1).isEmpty = true) : srt (some c) = ⟨#[c]⟩ := by
  rw [occ_blk] at h
  rw [occ_mrk] at h'
  unfold srt; dsimp only
  rw [srt_nd c h1, srt_nl c h1 g1 g2 g3, show isBlk c = false by revert h; cases isBlk c <;> simp, show isMrk c = false by revert h'; cases isMrk c <;> simp]; rfl
end
theorem sort_none (w : World) (mean : ExcName → Option Value) (mg mb : Str → Option Value) (t : Tok) (pre : Led) :
   Spec w mean mg mb 162 [.str (sgn none) t] pre 8 8 (fun v news' => news' = pre ∧ ∃ t', v = .str (srt none) t') := by
  unfold Spec
  k_fill
  intro dp un gd cn cs a ccd cl outer A₀ base h₀ L m s Q E B F X N T hk hd hu hret
  refine wpAny_call ?_
  k_dflt (refine' code_def (binds := [(Str.ofString "sign", .str (sgn none) t)]) ?k1 ?k2 ?k3 ?k4 ?k5 ?kA ?kF ?kK ?k6 ?k7 ?k8 ?k9 ?kB ?_ ?c2 ?c3 ?c4 ?c5)
  (case kA => exact rfl)
  (case kF => exact rfl)
  (case kK => assumption)
  (case k1 => k_asm)
  (case k2 => k_asm)
  (case k3 => k_asm)
  (case k4 => k_asm)
  (case k5 => k_asm)
  (case k6 => k_is)
  (case k7 => k_is)
  (case k8 => ktr_room)
  (case k9 => k_dflt (exact BindsTo.of_eq rfl))
  (case c5 => decide)
  (case kB => exact locs rfl)
  (case c2 => exact rfl)
  (case c3 => exact rfl)
  (case c4 => exact rfl)
  intro g' L' h' FG' F' N' B' X' T'
  (try dsimp only)
  (try k_fold)

  k_steps
  all_goals exact hret _ _ _ _ ⟨rfl, _, rfl⟩ (by assumption) (by assumption)
theorem sort_some (w : World) (mean : ExcName → Option Value) (mg mb : Str → Option Value) (c : Nat) (t : Tok) (pre : Led) :
   Spec w mean mg mb 162 [.str ⟨#[c]⟩ t] pre 8 8 (fun v news' => news' = pre ∧ ∃ t', v = .str (srt (some c)) t') := by
  unfold Spec
  k_fill
  intro dp un gd cn cs a ccd cl outer A₀ base h₀ L m s Q E B F X N T hk hd hu hret
  refine wpAny_call ?_
  k_dflt (refine' code_def (binds := [(Str.ofString "sign", .str ⟨#[c]⟩ t)]) ?k1 ?k2 ?k3 ?k4 ?k5 ?kA ?kF ?kK ?k6 ?k7 ?k8 ?k9 ?kB ?_ ?c2 ?c3 ?c4 ?c5)
  (case kA => exact rfl)
  (case kF => exact rfl)
  (case kK => assumption)
  (case k1 => k_asm)
  (case k2 => k_asm)
  (case k3 => k_asm)
  (case k4 => k_asm)
  (case k5 => k_asm)
  (case k6 => k_is)
  (case k7 => k_is)
  (case k8 => ktr_room)
  (case k9 => k_dflt (exact BindsTo.of_eq rfl))
  (case c5 => decide)
  (case kB => exact locs rfl)
  (case c2 => exact rfl)
  (case c3 => exact rfl)
  (case c4 => exact rfl)
  intro g' L' h' FG' F' N' B' X' T'
  (try dsimp only)
  (try k_fold)

  have f0 := one_empty c
  k_steps
  all_goals (try dsimp only)
  all_goals refine hret _ _ _ _ ⟨rfl, ?_⟩ (by assumption) (by assumption)
  all_goals first
    | (rw [srt_dig c (by assumption)]; exact ⟨_, rfl⟩)
    | (rw [srt_l1 c (by assumption) (by assumption)]; exact ⟨_, rfl⟩)
    | (rw [srt_l2 c (by assumption) (by assumption) (by assumption)]; exact ⟨_, rfl⟩)
    | (rw [srt_l3 c (by assumption) (by assumption) (by assumption)]; exact ⟨_, rfl⟩)
    | (rw [srt_blk c (by assumption) (by assumption) (by first | exact .inl (by assumption) | exact .inr (by assumption)) (by first | exact .inl (by assumption) | exact .inr (by assumption)) (by assumption)]; exact ⟨_, rfl⟩)
    | (rw [srt_mrk c (by assumption) (by assumption) (by first | exact .inl (by assumption) | exact .inr (by assumption)) (by first | exact .inl (by assumption) | exact .inr (by assumption)) (by assumption) (by assumption)]; exact ⟨_, rfl⟩)
    | (rw [srt_oth c (by assumption) (by assumption) (by first | exact .inl (by assumption) | exact .inr (by assumption)) (by first | exact .inl (by assumption) | exact .inr (by assumption)) (by assumption) (by assumption)]; exact ⟨_, rfl⟩)
theorem sort_spec (w : World) (mean : ExcName → Option Value) (mg mb : Str → Option Value) (o : Option Nat) (t : Tok) (pre : Led) :
   Spec w mean mg mb 162 [.str (sgn o) t] pre 8 8 (fun v news' => news' = pre ∧ ∃ t', v = .str (srt o) t') := by
  cases o with
  | none => exact sort_none w mean mg mb t pre
  | some c => exact sort_some w mean mg mb c t pre
end
end Mine
namespace Mine
section
theorem fresh_WorthS : True := by w_top off; trivial
set_option maxHeartbeats 1000000
local macro_rules | `(tactic| walk_at "exec For Name Name cons nil") => `(tactic| (k_here; (rename Fr _ _ _ _ => lF'); (with_unfolding_all refine' For_invVF lF' ?k1 ?k2 ?_; (case k1 => exact rfl); (case k2 => exact rfl); k_whole)))
local macro_rules | `(tactic| walk_at "pyIter str") => `(tactic| (refine Stop.of ?_))
theorem worth_spec (w : World) (mean : ExcName → Option Value) (mg mb : Str → Option Value) (y : Str) (ty : Tok) (pre : Led) (hy : y.length ≤ 1000) (hc : ∀ c ∈ y.cps.toList, c = 45 ∨ isDig c = true) :
   Spec w mean mg mb 169 [.str y ty] pre 8 30 (fun v news' => news' = pre ∧ ∃ t, v = .int (worth y.cps.toList) t) := by
  unfold Spec
  k_fill
  intro dp un gd cn cs a ccd cl outer A₀ base h₀ L m s Q E B F X N T hk hd hu hret
  refine wpAny_call ?_
  k_dflt (refine' code_def (binds := [(Str.ofString "signs", .str y ty)]) ?k1 ?k2 ?k3 ?k4 ?k5 ?kA ?kF ?kK ?k6 ?k7 ?k8 ?k9 ?kB ?_ ?c2 ?c3 ?c4 ?c5)
  (case kA => exact rfl)
  (case kF => exact rfl)
  (case kK => assumption)
  (case k1 => k_asm)
  (case k2 => k_asm)
  (case k3 => k_asm)
  (case k4 => k_asm)
  (case k5 => k_asm)
  (case k6 => k_is)
  (case k7 => k_is)
  (case k8 => ktr_room)
  (case k9 => k_dflt (exact BindsTo.of_eq rfl))
  (case c5 => decide)
  (case kB => exact locs rfl)
  (case c2 => exact rfl)
  (case c3 => exact rfl)
  (case c4 => exact rfl)
  intro g' L' h' FG' F' N' B' X' T'
  (try dsimp only)
  (try k_fold)

  k_steps
  (try dsimp only)
  unfold Stop
  (rename Fr _ _ _ _ => F₂)
  (rename News _ _ _ _ => N₂)
  refine text_cut (fun i m => ∃ t, Pins m [(Str.ofString "signs", .str y ty), (Str.ofString "total", .int (worthOf (y.cps.toList.take i)) t)]) (L := L') (by rfl) (by rfl) F₂ N₂ ⟨_, rfl, rfl, trivial⟩ ?_ ?_
  all_goals clear F₂ N₂
  · rintro i c t m₁ h₁ tk₁ own hi ⟨tt, hp⟩ F₁ N₁
    replace F₁ := fr_pins F₁ (l := [(Str.ofString "signs", .str y ty), (Str.ofString "total", .int (worthOf (y.cps.toList.take i)) tt), (Str.ofString "sign", .str ⟨#[c]⟩ t)]) ⟨hp.1, hp.2.1, rfl, trivial⟩
    have hmem : c ∈ y.cps.toList := List.mem_of_getElem? (by rw [Array.getElem?_toList]; exact hi)
    have htk : y.cps.toList.take (i + 1) = y.cps.toList.take i ++ [c] := by rw [List.take_add_one, Array.getElem?_toList, hi]; rfl
    (try k_fold)
    rcases hc c hmem with rfl | hd'
    · k_steps
      (rename Fr _ _ _ _ => FF)
      (rename News _ _ _ _ => NN)
      exact ⟨_, _, _, rfl, FF, NN, tt, rfl, by rw [htk, worth_snoc]; rfl, trivial⟩
    · have hn : c ≠ 45 := by rintro rfl; cases hd'
      have hb : (({ cps := #[c] } : Str) != Str.ofString "-") = true := by rw [bne, show (Str.ofString "-") = ⟨#[45]⟩ from rfl, one_ne hn]; rfl
      have ho := occ_dig (c := c)
      rw [hd'] at ho
      k_steps
      · exfalso
        (rename Txt.find _ _ = -1 => hq)
        rw [find_dig hd'] at hq
        simp only [isDig, Bool.and_eq_true, decide_eq_true_eq] at hd'
        omega
      · (rename Fr _ _ _ _ => FF)
        (rename News _ _ _ _ => NN)
        refine ⟨_, _, _, rfl, FF, NN, ?_⟩
        rw [htk, worth_snoc, if_neg hn, ← find_dig hd']
        exact ⟨_, rfl, rfl, trivial⟩
  · rintro m₁ h₁ tk₁ ⟨tt, hp⟩ F₁ N₁
    replace F₁ := fr_pins F₁ hp
    rw [show y.cps.toList.take y.cps.size = y.cps.toList from List.take_of_length_le (by simp)] at F₁ hp
    (try dsimp only)
    (try k_fold)
    k_steps
    · (rename (Txt.slice _ _ _ == _) = true => hq)
      rw [slice_head, show Str.ofString "-" = ⟨#[45]⟩ from rfl, sgn_eq, decide_eq_true_eq] at hq
      refine hret _ _ _ _ ⟨rfl, ?_⟩ (by assumption) (by assumption)
      rw [worth, if_pos hq]
      exact ⟨_, rfl⟩
    · (rename (Txt.slice _ _ _ == _) = false => hq)
      rw [slice_head, show Str.ofString "-" = ⟨#[45]⟩ from rfl, sgn_eq, decide_eq_false_iff_not] at hq
      refine hret _ _ _ _ ⟨rfl, ?_⟩ (by assumption) (by assumption)
      rw [worth, if_neg hq]
      exact ⟨_, rfl⟩
end
end Mine
namespace Mine
section
def MObj (w : World) (lF : Addr) (m : MS) (o : Obj) : Prop :=
  ∃ t1 t2 t3 t4, o.IsDictOf (PySem.strKind PySem.Challenge.rw_nz0006_01.row.prog w) (MK (.str m.mode t1) lF (.str m.held t2) (.int m.beg t3) (.int m.fault t4))
structure MRep (w : World) (dM lF : Addr) (m : MS) (n tl dl : Led) : Prop where
  ne : @Ne Nat dM lF
  offM : ∀ p ∈ tl, p.1 ≠ dM
  offF : ∀ p ∈ tl, p.1 ≠ lF
  is : ∃ oM vs k, n = (dM, oM) :: (lF, listOf (List.toArray vs) k) :: tl ∧ MObj w lF m oM ∧ DatAll dl vs m.found
def MPost (w : World) (dM lF : Addr) (m' : MS) (pre tl dl : Led) (v : Value) (n' : Led) : Prop :=
  v = .none ∧ ∃ add, MRep w dM lF m' n' (add ++ tl) (add ++ dl) ∧ ∀ q ∈ add, ∀ p ∈ pre, @LT.lt Nat _ p.1 q.1
abbrev tupOf (vs : Array Value) (n : Nat) : Obj := { cls := .type "tuple", data := .seq vs n }
section
variable {w : World} {dM lF : Addr} {m m' : MS} {pre tl dl : Led} {h₀ h : Heap} {L : Addr} {oM : Obj} {vs : List Value} {k : Nat}
theorem fin_same {rest : Led} (NN : News h₀ L h rest) (ne : @Ne Nat dM lF) (offM : ∀ p ∈ tl, p.1 ≠ dM) (offF : ∀ p ∈ tl, p.1 ≠ lF)
    (sub : ∀ p ∈ (dM, oM) :: (lF, listOf vs.toArray k) :: tl, p ∈ rest) (hM : MObj w lF m' oM) (hv : DatAll dl vs m'.found) :
    ∃ n', MPost w dM lF m' pre tl dl .none n' ∧ News h₀ L h n' :=
  ⟨_, ⟨rfl, [], ⟨ne, offM, offF, oM, vs, k, rfl, hM, hv⟩, fun _ h => nomatch h⟩, cb_drop NN sub⟩
theorem fin_one {rest : Led} {D : Addr} {ws : List Value} {a : Array Value} {k₂ n : Nat} {fo : List Dat} {ds : List Dat} (NN : News h₀ L h rest) (ne : @Ne Nat dM lF) (offM : ∀ p ∈ tl, p.1 ≠ dM) (offF : ∀ p ∈ tl, p.1 ≠ lF)
    (sub : ∀ p ∈ (dM, oM) :: (lF, listOf a k₂) :: (D, tupOf ws.toArray n) :: tl, p ∈ rest) (hM : MObj w lF m' oM) (hv : DatAll dl vs fo) (hf : m'.found = fo ++ [.tuple ds])
    (ha : a = (vs ++ [Value.ref D]).toArray) (hw : DatAll [] ws ds)
    (nD : @LT.lt Nat _ dM D) (nF : @LT.lt Nat _ lF D) (nT : AllLt D tl) {o1 o2 : Obj} :
    ∃ n', MPost w dM lF m' ((dM, o1) :: (lF, o2) :: tl) tl dl .none n' ∧ News h₀ L h n' := by
  subst ha
  have hlt := ktn_ltOf nT
  refine ⟨(dM, oM) :: (lF, listOf (vs ++ [Value.ref D]).toArray k₂) :: ((D, tupOf ws.toArray n) :: tl), ⟨rfl, [(D, tupOf ws.toArray n)], ⟨ne, ?_, ?_, oM, vs ++ [Value.ref D], k₂, rfl, hM, ?_⟩, ?_⟩, cb_drop NN sub⟩
  · intro p hp
    rcases List.mem_cons.mp hp with rfl | hp
    · exact Nat.ne_of_gt nD
    · exact offM p hp
  · intro p hp
    rcases List.mem_cons.mp hp with rfl | hp
    · exact Nat.ne_of_gt nF
    · exact offF p hp
  · rw [hf]
    refine DatAll.append (DatAll.mono (fun p hp => List.mem_cons_of_mem _ hp) hv) (.one ?_)
    refine DatIn.tuple (vs := ws) (n := n) (.head _) (DatAll.mono (fun p hp => absurd hp List.not_mem_nil) hw)
  · intro q hq p hp
    rw [List.mem_singleton.mp hq]
    rcases List.mem_cons.mp hp with rfl | hp
    · exact nD
    rcases List.mem_cons.mp hp with rfl | hp
    · exact nF
    exact hlt p hp
end
theorem MRep.over {w : World} {dM lF : Addr} {m : MS} {n tl dl own : Led} (R : MRep w dM lF m n tl dl) (h : OwnOff own (n.map (·.1))) : MRep w dM lF m (n ++ own) (tl ++ own) dl := by
  obtain ⟨ne, a, b, oM, vs, k, rfl, hM, hA⟩ := R
  refine ⟨ne, fun p hp => ?_, fun p hp => ?_, oM, vs, k, rfl, hM, hA⟩
  · rcases List.mem_append.mp hp with hp | hp
    · exact a p hp
    · exact h p hp _ (.head _)
  · rcases List.mem_append.mp hp with hp | hp
    · exact b p hp
    · exact h p hp _ (.tail _ (.head _))
theorem spec_use {w : World} {mean : ExcName → Option Value} {mg mb : Str → Option Value} {f : Addr} {args : List Value} {pre : Led} {d u : Nat} {post : Value → Led → Prop} (hS : Spec w mean mg mb f args pre d u post)
    {dp un : Nat} {gd : Option (List Code)} {cn : Str} {cs : Scope} {a : Addr} {ccd : Value} {cl : List (Str × Addr)} {outer : List Env} {A₀ : Around} {base h₀ : Heap} {L : Addr} {m : Str → Option Value} {s : Shared} {Q E : Value → Shared → Prop}
    (B : Below A₀ base outer h₀) (F : Fr h₀ L s.heap m) (X : (hd.heap_39 w.params).In h₀) (N : News h₀ L s.heap pre) (T : Top hd.view_39 (looseW hd.view_39 [Str.ofString "_law_good", Str.ofString "_law_odd"]) mean mg mb h₀) (hk : cs.kind = .function) (hd : dp + d < recursionLimit) (hu : un + u < cLine)
    (hret : ∀ v news' h' tk', post v news' → Fr h₀ L h' m → News h₀ L h' news' → Q v { s with heap := h', toks := tk' }) :
    wpAny (model PySem.Challenge.rw_nz0006_01.row.prog w) (ktrTop dp un gd cn cs L a ccd cl outer) (call (.ref f) args) Q E s :=
  hS _ _ _ _ _ _ _ _ _ _ _ _ _ _ _ _ _ B F X N T hk hd hu hret
theorem in_tup2 {prog : Program} {w : World} {A : Around} {E : Value → Shared → Prop} {s : Shared} {t : Addr} {a0 a1 x : Str} {ta0 ta1 u : Tok} {Q : Value → Shared → Prop} (b : Bool) (ht : IsTup s.heap t #[.str a0 ta0, .str a1 ta1]) (e : ([a0, a1].any (· == x)) = b)
    (h : Q (.bool b) s) : wpAny (model prog w) A (compareOp .In (.str x u) (.ref t)) Q E s := in_tuple_strs ht (.cons _ _ (.cons _ _ (.nil))) (by rw [e]; exact h)
theorem in_tup3 {prog : Program} {w : World} {A : Around} {E : Value → Shared → Prop} {s : Shared} {t : Addr} {a0 a1 a2 x : Str} {ta0 ta1 ta2 u : Tok} {Q : Value → Shared → Prop} (b : Bool) (ht : IsTup s.heap t #[.str a0 ta0, .str a1 ta1, .str a2 ta2]) (e : ([a0, a1, a2].any (· == x)) = b)
    (h : Q (.bool b) s) : wpAny (model prog w) A (compareOp .In (.str x u) (.ref t)) Q E s := in_tuple_strs ht (.cons _ _ (.cons _ _ (.cons _ _ (.nil)))) (by rw [e]; exact h)
theorem in_tup4 {prog : Program} {w : World} {A : Around} {E : Value → Shared → Prop} {s : Shared} {t : Addr} {a0 a1 a2 a3 x : Str} {ta0 ta1 ta2 ta3 u : Tok} {Q : Value → Shared → Prop} (b : Bool) (ht : IsTup s.heap t #[.str a0 ta0, .str a1 ta1, .str a2 ta2, .str a3 ta3]) (e : ([a0, a1, a2, a3].any (· == x)) = b)
    (h : Q (.bool b) s) : wpAny (model prog w) A (compareOp .In (.str x u) (.ref t)) Q E s := in_tuple_strs ht (.cons _ _ (.cons _ _ (.cons _ _ (.cons _ _ (.nil))))) (by rw [e]; exact h)
theorem ite_tt {P Q : Prop} (h : P) : if true = true then P else Q := by rw [if_pos rfl]; exact h
theorem ite_ff {P Q : Prop} (h : Q) : if false = true then P else Q := by rw [if_neg Bool.false_ne_true]; exact h
theorem cb_tail {h₀ h : Heap} {L : Addr} {x : Addr × Obj} {l : Led} (N : News h₀ L h (x :: l)) : News h₀ L h l := cb_drop N (fun _ hp => List.mem_cons_of_mem _ hp)
theorem off_cons {p d : Addr} {o : Obj} {tl : Led} (h : @Ne Nat p d) (t : ∀ q ∈ tl, q.1 ≠ d) : ∀ q ∈ (p, o) :: tl, q.1 ≠ d := by
  intro q hq
  rcases List.mem_cons.mp hq with rfl | hq
  · exact h
  · exact t q hq
theorem sub_cons {x : Addr × Obj} {l r : Led} (h : x ∈ r) (t : ∀ p ∈ l, p ∈ r) : ∀ p ∈ x :: l, p ∈ r := by
  intro p hp
  rcases List.mem_cons.mp hp with rfl | hp
  · exact h
  · exact t p hp
theorem sub_tail {x : Addr × Obj} {l r : Led} (t : ∀ p ∈ l, p ∈ r) : ∀ p ∈ l, p ∈ x :: r := fun p hp => List.mem_cons_of_mem _ (t p hp)
theorem sub_self {l : Led} : ∀ p ∈ l, p ∈ l := fun _ hp => hp
/-- the end of a contract: the walk's state is one of the post's -/
theorem ret_of {post : Value → Led → Prop} {Q : Value → Shared → Prop} {s : Shared} {h₀ h : Heap} {L : Addr} {m : Str → Option Value} {v : Value} {tk : Nat}
    (hret : ∀ v news' h' tk', post v news' → Fr h₀ L h' m → News h₀ L h' news' → Q v { s with heap := h', toks := tk' }) (F : Fr h₀ L h m) (P : ∃ n', post v n' ∧ News h₀ L h n') : Q v { s with heap := h, toks := tk } :=
  P.elim fun _ P => hret _ _ _ _ P.1 F P.2
end
end Mine
local macro_rules | `(tactic| walk_at "own k_memr") => `(tactic| first | (with_reducible exact List.Mem.head _) | (refine List.Mem.tail _ ?_; walk_at "own k_memr") | (exact List.Mem.head _))
local macro_rules | `(tactic| walk_at "own k_tails") => `(tactic| first | (with_reducible exact Mine.sub_self) | (refine Mine.sub_tail ?_; walk_at "own k_tails"))
local macro_rules | `(tactic| walk_at "own k_subset") => `(tactic| ((repeat (refine Mine.sub_cons ?_ ?_; (walk_at "own k_memr"))); walk_at "own k_tails"))
namespace Mine
section
set_option maxHeartbeats 1000000
theorem leave_word_in {he : Str} {fo : List Dat} {be fa : Int} {so : Str} (h : ([Str.ofString "letter", Str.ofString "digit"].any fun x => x == so) = true) :
    leave ⟨Str.ofString "word", he, fo, be, fa⟩ so = ⟨Str.ofString "word", he, fo, be, fa⟩ := by
  unfold leave
  rw [if_pos (by dsimp only; exact beq_self_eq_true _)]
  simp only [List.any_cons, List.any_nil, Bool.or_false, Bool.or_eq_true, beq_iff_eq] at h
  rcases h with h | h
  · rw [if_pos (by rw [h]; exact beq_self_eq_true _)]
  · subst h; rfl
theorem leave_word_out {he : Str} {fo : List Dat} {be fa : Int} {so : Str} (h : ([Str.ofString "letter", Str.ofString "digit"].any fun x => x == so) = false) :
    leave ⟨Str.ofString "word", he, fo, be, fa⟩ so = ⟨Str.ofString "", he, fo ++ [tokS (Str.ofString "word") he be], be, fa⟩ := by
  unfold leave
  rw [if_pos (by dsimp only; exact beq_self_eq_true _)]
  simp only [List.any_cons, List.any_nil, Bool.or_false, Bool.or_eq_false_iff, beq_eq_false_iff_ne] at h
  rw [if_neg (by rw [beq_iff_eq]; exact fun e => h.1 e.symm), if_neg (by rw [beq_iff_eq]; exact fun e => h.2 e.symm)]
theorem leave_num_in {he : Str} {fo : List Dat} {be fa : Int} {so : Str} (h : (so != Str.ofString "digit") = false) :
    leave ⟨Str.ofString "number", he, fo, be, fa⟩ so = ⟨Str.ofString "number", he, fo, be, fa⟩ := by
  have e : so = Str.ofString "digit" := by simpa [bne] using h
  subst e; rfl
theorem leave_num_out {he : Str} {fo : List Dat} {be fa : Int} {so : Str} (h : (so != Str.ofString "digit") = true) :
    leave ⟨Str.ofString "number", he, fo, be, fa⟩ so = ⟨Str.ofString "", he, fo ++ [tokN (worth he.cps.toList) be], be, fa⟩ := by
  have e : ¬ (so == Str.ofString "digit") = true := by simpa [bne] using h
  unfold leave
  dsimp only
  rw [if_neg (by decide +kernel), if_pos (by exact beq_self_eq_true _), if_neg e]
theorem leave_min_in {he : Str} {fo : List Dat} {be fa : Int} {so : Str} (h : (so != Str.ofString "digit") = false) :
    leave ⟨Str.ofString "minus", he, fo, be, fa⟩ so = ⟨Str.ofString "number", he, fo, be, fa⟩ := by
  have e : so = Str.ofString "digit" := by simpa [bne] using h
  subst e; rfl
theorem leave_min_out {he : Str} {fo : List Dat} {be fa : Int} {so : Str} (h : (so != Str.ofString "digit") = true) :
    leave ⟨Str.ofString "minus", he, fo, be, fa⟩ so = ⟨Str.ofString "number", he, fo, be, be⟩ := by
  have e : ¬ (so == Str.ofString "digit") = true := by simpa [bne] using h
  unfold leave
  dsimp only
  rw [if_neg (by decide +kernel), if_neg (by decide +kernel), if_pos (by exact beq_self_eq_true _), if_neg e]
theorem leave_other {mo he : Str} {fo : List Dat} {be fa : Int} {so : Str} (h1 : (mo == Str.ofString "word") = false) (h2 : (mo == Str.ofString "number") = false) (h3 : (mo == Str.ofString "minus") = false) :
    leave ⟨mo, he, fo, be, fa⟩ so = ⟨mo, he, fo, be, fa⟩ := by
  unfold leave
  dsimp only
  rw [if_neg (by simp [h1]), if_neg (by simp [h2]), if_neg (by simp [h3])]
end
end Mine
namespace Mine
section
theorem fresh_LeaveW : True := by w_top off; trivial
set_option maxHeartbeats 1000000
local macro_rules | `(tactic| walk_at "subscriptTail") => `(tactic| (k_here; (with_reducible show wpAny _ _ (subscriptTail _ _ (Value.ref _) (Value.str _ _)) _ _ _); k_dflt (refine' mget ?N ?mm ?hd ?hv ?_; (case N => k_asm); (case mm => k_mem); (case hd => assumption); (case hv => rfl))))
local macro_rules | `(tactic| walk_at "setItem ref str") => `(tactic| (k_here; k_dflt (first
  | ((with_reducible show wpAny _ _ (setItem (Value.ref _) (Value.str (Str.ofString "mode") _) _) _ _ _); refine' mput_mode ?F ?N ?U ?hd ?_; (case F => k_asm); (case N => k_asm); (case U => k_updF); (case hd => assumption))
  | ((with_reducible show wpAny _ _ (setItem (Value.ref _) (Value.str (Str.ofString "held") _) _) _ _ _); refine' mput_held ?F ?N ?U ?hd ?_; (case F => k_asm); (case N => k_asm); (case U => k_updF); (case hd => assumption))
  | ((with_reducible show wpAny _ _ (setItem (Value.ref _) (Value.str (Str.ofString "begin") _) _) _ _ _); refine' mput_begin ?F ?N ?U ?hd ?_; (case F => k_asm); (case N => k_asm); (case U => k_updF); (case hd => assumption))
  | ((with_reducible show wpAny _ _ (setItem (Value.ref _) (Value.str (Str.ofString "fault") _) _) _ _ _); refine' mput_fault ?F ?N ?U ?hd ?_; (case F => k_asm); (case N => k_asm); (case U => k_updF); (case hd => assumption))); intro h' o' F' N' hd'; (try dsimp only at N'); (try dsimp only); (try k_sweep)))
local macro_rules | `(tactic| k_all) => `(tactic| assumption)
local macro_rules | `(tactic| walk_at "own lt_of") => `(tactic| (first | assumption | (rename _ ∧ _ => nn; with_reducible first | exact nn.1 | exact nn.2.1 | exact nn.2.2 | exact nn.2.2.1 | exact nn.2.2.2 | exact nn.2.2.2.1 | exact nn.2.2.2.2 | exact nn.2.2.2.2.1 | exact nn.2.2.2.2.2)))
theorem leave_word (w : World) (mean : ExcName → Option Value) (mg mb : Str → Option Value) (dM lF : Nat) (oM : Obj) (so he : Str) (be fa : Int) (vs : List Value) (n : Nat) (fo : List Dat) (t1 t2 t3 t4 t5 : Tok) (tl dl : Led)
   (hne : @Ne Nat dM lF) (hoM : ∀ p ∈ tl, p.1 ≠ dM) (hoF : ∀ p ∈ tl, p.1 ≠ lF) (hvs : vs.length ≤ 1000) (hD : DatAll dl vs fo)
   (hM : oM.IsDictOf (PySem.strKind PySem.Challenge.rw_nz0006_01.row.prog w) (MK (.str (Str.ofString "word") t1) lF (.str he t2) (.int be t3) (.int fa t4)))  :
   Spec w mean mg mb 176 [.ref dM, .str so t5] ((dM, oM) :: (lF, listOf vs.toArray n) :: tl) 24 60 (MPost w dM lF (leave ⟨(Str.ofString "word"), he, fo, be, fa⟩ so) ((dM, oM) :: (lF, listOf vs.toArray n) :: tl) tl dl) := by
  unfold Spec
  k_fill
  intro dp un gd cn cs a ccd cl outer A₀ base h₀ L m s Q E B F X N T hk hd hu hret
  refine wpAny_call ?_
  k_dflt (refine' code_def (binds := [(Str.ofString "machine", .ref dM), (Str.ofString "sort", .str so t5)]) ?k1 ?k2 ?k3 ?k4 ?k5 ?kA ?kF ?kK ?k6 ?k7 ?k8 ?k9 ?kB ?_ ?c2 ?c3 ?c4 ?c5)
  (case kA => exact rfl)
  (case kF => exact rfl)
  (case kK => assumption)
  (case k1 => k_asm)
  (case k2 => k_asm)
  (case k3 => k_asm)
  (case k4 => k_asm)
  (case k5 => k_asm)
  (case k6 => k_is)
  (case k7 => k_is)
  (case k8 => ktr_room)
  (case k9 => k_dflt (exact BindsTo.of_eq rfl))
  (case c5 => decide)
  (case kB => exact locs rfl)
  (case c2 => exact rfl)
  (case c3 => exact rfl)
  (case c4 => exact rfl)
  intro g' L' h' FG' F' N' B' X' T'
  (try dsimp only)
  (try k_fold)

  k_steps
  all_goals (try dsimp only)
  · (rw [leave_word_in (by assumption)] at hret; (rename News _ _ _ _ => NN); (rename Obj.IsDictOf _ _ _ => HH); refine' ret_of hret ?F (fin_same NN hne hoM hoF ?S ⟨_, _, _, _, HH⟩ hD); (case F => k_asm); (case S => walk_at "own k_subset"))
  · (rw [leave_word_out (by assumption)] at hret; (rename News _ _ _ _ => NN); (rename Obj.IsDictOf _ _ _ => HH); exact ret_of hret (by k_asm) (fin_one NN hne hoM hoF (by walk_at "own k_subset") ⟨_, _, _, _, HH⟩ hD rfl (by with_reducible exact List.push_toArray _ _) (.cons (.str _ _) (.cons (.str _ _) (.cons (.int _ _) .nil))) (by walk_at "own lt_of") (by walk_at "own lt_of") (by walk_at "own lt_of")))
end
end Mine
namespace Mine
section
local macro_rules | `(tactic| walk_at "own pad") => `(tactic| skip)
theorem fresh_LeaveM : True := by w_top off; trivial
set_option maxHeartbeats 1000000
local macro_rules | `(tactic| walk_at "subscriptTail") => `(tactic| (k_here; (with_reducible show wpAny _ _ (subscriptTail _ _ (Value.ref _) (Value.str _ _)) _ _ _); k_dflt (refine' mget ?N ?mm ?hd ?hv ?_; (case N => k_asm); (case mm => k_mem); (case hd => assumption); (case hv => rfl))))
local macro_rules | `(tactic| walk_at "setItem ref str") => `(tactic| (k_here; k_dflt (first
  | ((with_reducible show wpAny _ _ (setItem (Value.ref _) (Value.str (Str.ofString "mode") _) _) _ _ _); refine' mput_mode ?F ?N ?U ?hd ?_; (case F => k_asm); (case N => k_asm); (case U => k_updF); (case hd => assumption))
  | ((with_reducible show wpAny _ _ (setItem (Value.ref _) (Value.str (Str.ofString "held") _) _) _ _ _); refine' mput_held ?F ?N ?U ?hd ?_; (case F => k_asm); (case N => k_asm); (case U => k_updF); (case hd => assumption))
  | ((with_reducible show wpAny _ _ (setItem (Value.ref _) (Value.str (Str.ofString "begin") _) _) _ _ _); refine' mput_begin ?F ?N ?U ?hd ?_; (case F => k_asm); (case N => k_asm); (case U => k_updF); (case hd => assumption))
  | ((with_reducible show wpAny _ _ (setItem (Value.ref _) (Value.str (Str.ofString "fault") _) _) _ _ _); refine' mput_fault ?F ?N ?U ?hd ?_; (case F => k_asm); (case N => k_asm); (case U => k_updF); (case hd => assumption))); intro h' o' F' N' hd'; (try dsimp only at N'); (try dsimp only); (try k_sweep)))
local macro_rules | `(tactic| k_all) => `(tactic| assumption)
local macro_rules | `(tactic| walk_at "own lt_of") => `(tactic| (first | assumption | (rename _ ∧ _ => nn; with_reducible first | exact nn.1 | exact nn.2.1 | exact nn.2.2 | exact nn.2.2.1 | exact nn.2.2.2 | exact nn.2.2.2.1 | exact nn.2.2.2.2 | exact nn.2.2.2.2.1 | exact nn.2.2.2.2.2)))
theorem leave_minus (w : World) (mean : ExcName → Option Value) (mg mb : Str → Option Value) (dM lF : Nat) (oM : Obj) (so he : Str) (be fa : Int) (vs : List Value) (n : Nat) (fo : List Dat) (t1 t2 t3 t4 t5 : Tok) (tl dl : Led)
   (hne : @Ne Nat dM lF) (hoM : ∀ p ∈ tl, p.1 ≠ dM) (hoF : ∀ p ∈ tl, p.1 ≠ lF) (hvs : vs.length ≤ 1000) (hD : DatAll dl vs fo)
   (hM : oM.IsDictOf (PySem.strKind PySem.Challenge.rw_nz0006_01.row.prog w) (MK (.str (Str.ofString "minus") t1) lF (.str he t2) (.int be t3) (.int fa t4)))  :
   Spec w mean mg mb 176 [.ref dM, .str so t5] ((dM, oM) :: (lF, listOf vs.toArray n) :: tl) 24 60 (MPost w dM lF (leave ⟨(Str.ofString "minus"), he, fo, be, fa⟩ so) ((dM, oM) :: (lF, listOf vs.toArray n) :: tl) tl dl) := by
  unfold Spec
  k_fill
  intro dp un gd cn cs a ccd cl outer A₀ base h₀ L m s Q E B F X N T hk hd hu hret
  refine wpAny_call ?_
  k_dflt (refine' code_def (binds := [(Str.ofString "machine", .ref dM), (Str.ofString "sort", .str so t5)]) ?k1 ?k2 ?k3 ?k4 ?k5 ?kA ?kF ?kK ?k6 ?k7 ?k8 ?k9 ?kB ?_ ?c2 ?c3 ?c4 ?c5)
  (case kA => exact rfl)
  (case kF => exact rfl)
  (case kK => assumption)
  (case k1 => k_asm)
  (case k2 => k_asm)
  (case k3 => k_asm)
  (case k4 => k_asm)
  (case k5 => k_asm)
  (case k6 => k_is)
  (case k7 => k_is)
  (case k8 => ktr_room)
  (case k9 => k_dflt (exact BindsTo.of_eq rfl))
  (case c5 => decide)
  (case kB => exact locs rfl)
  (case c2 => exact rfl)
  (case c3 => exact rfl)
  (case c4 => exact rfl)
  intro g' L' h' FG' F' N' B' X' T'
  (try dsimp only)
  (try k_fold)

  k_steps
  all_goals (try dsimp only)
  · (rw [leave_min_out (by assumption)] at hret; (rename News _ _ _ _ => NN); (rename Obj.IsDictOf _ _ _ => HH); refine' ret_of hret ?F (fin_same NN hne hoM hoF ?S ⟨_, _, _, _, HH⟩ hD); (case F => k_asm); (case S => walk_at "own k_subset"))
  · (rw [leave_min_in (by assumption)] at hret; (rename News _ _ _ _ => NN); (rename Obj.IsDictOf _ _ _ => HH); refine' ret_of hret ?F (fin_same NN hne hoM hoF ?S ⟨_, _, _, _, HH⟩ hD); (case F => k_asm); (case S => walk_at "own k_subset"))
end
end Mine
namespace Mine
section
theorem fresh_LeaveE : True := by w_top off; trivial
set_option maxHeartbeats 1000000
local macro_rules | `(tactic| walk_at "subscriptTail") => `(tactic| (k_here; (with_reducible show wpAny _ _ (subscriptTail _ _ (Value.ref _) (Value.str _ _)) _ _ _); k_dflt (refine' mget ?N ?mm ?hd ?hv ?_; (case N => k_asm); (case mm => k_mem); (case hd => assumption); (case hv => rfl))))
local macro_rules | `(tactic| walk_at "setItem ref str") => `(tactic| (k_here; k_dflt (first
  | ((with_reducible show wpAny _ _ (setItem (Value.ref _) (Value.str (Str.ofString "mode") _) _) _ _ _); refine' mput_mode ?F ?N ?U ?hd ?_; (case F => k_asm); (case N => k_asm); (case U => k_updF); (case hd => assumption))
  | ((with_reducible show wpAny _ _ (setItem (Value.ref _) (Value.str (Str.ofString "held") _) _) _ _ _); refine' mput_held ?F ?N ?U ?hd ?_; (case F => k_asm); (case N => k_asm); (case U => k_updF); (case hd => assumption))
  | ((with_reducible show wpAny _ _ (setItem (Value.ref _) (Value.str (Str.ofString "begin") _) _) _ _ _); refine' mput_begin ?F ?N ?U ?hd ?_; (case F => k_asm); (case N => k_asm); (case U => k_updF); (case hd => assumption))
  | ((with_reducible show wpAny _ _ (setItem (Value.ref _) (Value.str (Str.ofString "fault") _) _) _ _ _); refine' mput_fault ?F ?N ?U ?hd ?_; (case F => k_asm); (case N => k_asm); (case U => k_updF); (case hd => assumption))); intro h' o' F' N' hd'; (try dsimp only at N'); (try dsimp only); (try k_sweep)))
local macro_rules | `(tactic| k_all) => `(tactic| assumption)
local macro_rules | `(tactic| walk_at "own lt_of") => `(tactic| (first | assumption | (rename _ ∧ _ => nn; with_reducible first | exact nn.1 | exact nn.2.1 | exact nn.2.2 | exact nn.2.2.1 | exact nn.2.2.2 | exact nn.2.2.2.1 | exact nn.2.2.2.2 | exact nn.2.2.2.2.1 | exact nn.2.2.2.2.2)))
theorem leave_else (w : World) (mean : ExcName → Option Value) (mg mb : Str → Option Value) (dM lF : Nat) (oM : Obj) (mo so he : Str) (be fa : Int) (vs : List Value) (n : Nat) (fo : List Dat) (t1 t2 t3 t4 t5 : Tok) (tl dl : Led)
   (hne : @Ne Nat dM lF) (hoM : ∀ p ∈ tl, p.1 ≠ dM) (hoF : ∀ p ∈ tl, p.1 ≠ lF) (hvs : vs.length ≤ 1000) (hD : DatAll dl vs fo)
   (hM : oM.IsDictOf (PySem.strKind PySem.Challenge.rw_nz0006_01.row.prog w) (MK (.str mo t1) lF (.str he t2) (.int be t3) (.int fa t4))) (h1 : (mo == Str.ofString "word") = false) (h2 : (mo == Str.ofString "number") = false) (h3 : (mo == Str.ofString "minus") = false) :
   Spec w mean mg mb 176 [.ref dM, .str so t5] ((dM, oM) :: (lF, listOf vs.toArray n) :: tl) 24 60 (MPost w dM lF (leave ⟨mo, he, fo, be, fa⟩ so) ((dM, oM) :: (lF, listOf vs.toArray n) :: tl) tl dl) := by
  unfold Spec
  k_fill
  intro dp un gd cn cs a ccd cl outer A₀ base h₀ L m s Q E B F X N T hk hd hu hret
  refine wpAny_call ?_
  k_dflt (refine' code_def (binds := [(Str.ofString "machine", .ref dM), (Str.ofString "sort", .str so t5)]) ?k1 ?k2 ?k3 ?k4 ?k5 ?kA ?kF ?kK ?k6 ?k7 ?k8 ?k9 ?kB ?_ ?c2 ?c3 ?c4 ?c5)
  (case kA => exact rfl)
  (case kF => exact rfl)
  (case kK => assumption)
  (case k1 => k_asm)
  (case k2 => k_asm)
  (case k3 => k_asm)
  (case k4 => k_asm)
  (case k5 => k_asm)
  (case k6 => k_is)
  (case k7 => k_is)
  (case k8 => ktr_room)
  (case k9 => k_dflt (exact BindsTo.of_eq rfl))
  (case c5 => decide)
  (case kB => exact locs rfl)
  (case c2 => exact rfl)
  (case c3 => exact rfl)
  (case c4 => exact rfl)
  intro g' L' h' FG' F' N' B' X' T'
  (try dsimp only)
  (try k_fold)

  k_steps
  all_goals (try dsimp only)
  · (rw [leave_other h1 h2 h3] at hret; (rename News _ _ _ _ => NN); (rename Obj.IsDictOf _ _ _ => HH); refine' ret_of hret ?F (fin_same NN hne hoM hoF ?S ⟨_, _, _, _, HH⟩ hD); (case F => k_asm); (case S => walk_at "own k_subset"))
end
end Mine
namespace Mine
section
theorem fresh_LeaveN : True := by w_top off; trivial
set_option maxHeartbeats 1000000
local macro_rules | `(tactic| walk_at "subscriptTail") => `(tactic| (k_here; (with_reducible show wpAny _ _ (subscriptTail _ _ (Value.ref _) (Value.str _ _)) _ _ _); k_dflt (refine' mget ?N ?mm ?hd ?hv ?_; (case N => k_asm); (case mm => k_mem); (case hd => assumption); (case hv => rfl))))
local macro_rules | `(tactic| walk_at "setItem ref str") => `(tactic| (k_here; k_dflt (first
  | ((with_reducible show wpAny _ _ (setItem (Value.ref _) (Value.str (Str.ofString "mode") _) _) _ _ _); refine' mput_mode ?F ?N ?U ?hd ?_; (case F => k_asm); (case N => k_asm); (case U => k_updF); (case hd => assumption))
  | ((with_reducible show wpAny _ _ (setItem (Value.ref _) (Value.str (Str.ofString "held") _) _) _ _ _); refine' mput_held ?F ?N ?U ?hd ?_; (case F => k_asm); (case N => k_asm); (case U => k_updF); (case hd => assumption))
  | ((with_reducible show wpAny _ _ (setItem (Value.ref _) (Value.str (Str.ofString "begin") _) _) _ _ _); refine' mput_begin ?F ?N ?U ?hd ?_; (case F => k_asm); (case N => k_asm); (case U => k_updF); (case hd => assumption))
  | ((with_reducible show wpAny _ _ (setItem (Value.ref _) (Value.str (Str.ofString "fault") _) _) _ _ _); refine' mput_fault ?F ?N ?U ?hd ?_; (case F => k_asm); (case N => k_asm); (case U => k_updF); (case hd => assumption))); intro h' o' F' N' hd'; (try dsimp only at N'); (try dsimp only); (try k_sweep)))
local macro_rules | `(tactic| k_all) => `(tactic| assumption)
local macro_rules | `(tactic| walk_at "own lt_of") => `(tactic| (first | assumption | (rename _ ∧ _ => nn; with_reducible first | exact nn.1 | exact nn.2.1 | exact nn.2.2 | exact nn.2.2.1 | exact nn.2.2.2 | exact nn.2.2.2.1 | exact nn.2.2.2.2 | exact nn.2.2.2.2.1 | exact nn.2.2.2.2.2)))
local macro_rules | `(tactic| walk_at "call ref") => `(tactic| (k_here; k_dflt (refine' spec_use (worth_spec _ _ _ _ _ _ _ (by assumption) (by assumption)) ?B ?F ?X ?N ?T ?hk ?hd ?hu ?_; (case B => k_asm); (case F => k_asm); (case X => k_asm); (case N => k_asm); (case T => k_asm); (case hk => first | exact rfl | assumption); (case hd => ktr_room); (case hu => ktr_units)); intro v9 n9 h9 tk9 P9 F9 N9; obtain ⟨e9, t9, e8⟩ := P9; subst e9; subst e8; (try dsimp only); (try k_fold)))
theorem leave_number (w : World) (mean : ExcName → Option Value) (mg mb : Str → Option Value) (dM lF : Nat) (oM : Obj) (so he : Str) (be fa : Int) (vs : List Value) (n : Nat) (fo : List Dat) (t1 t2 t3 t4 t5 : Tok) (tl dl : Led)
   (hne : @Ne Nat dM lF) (hoM : ∀ p ∈ tl, p.1 ≠ dM) (hoF : ∀ p ∈ tl, p.1 ≠ lF) (hvs : vs.length ≤ 1000) (hD : DatAll dl vs fo)
   (hM : oM.IsDictOf (PySem.strKind PySem.Challenge.rw_nz0006_01.row.prog w) (MK (.str (Str.ofString "number") t1) lF (.str he t2) (.int be t3) (.int fa t4))) (hhl : he.length ≤ 1000) (hhd : ∀ c ∈ he.cps.toList, c = 45 ∨ isDig c = true) :
   Spec w mean mg mb 176 [.ref dM, .str so t5] ((dM, oM) :: (lF, listOf vs.toArray n) :: tl) 24 60 (MPost w dM lF (leave ⟨(Str.ofString "number"), he, fo, be, fa⟩ so) ((dM, oM) :: (lF, listOf vs.toArray n) :: tl) tl dl) := by
  unfold Spec
  k_fill
  intro dp un gd cn cs a ccd cl outer A₀ base h₀ L m s Q E B F X N T hk hd hu hret
  refine wpAny_call ?_
  k_dflt (refine' code_def (binds := [(Str.ofString "machine", .ref dM), (Str.ofString "sort", .str so t5)]) ?k1 ?k2 ?k3 ?k4 ?k5 ?kA ?kF ?kK ?k6 ?k7 ?k8 ?k9 ?kB ?_ ?c2 ?c3 ?c4 ?c5)
  (case kA => exact rfl)
  (case kF => exact rfl)
  (case kK => assumption)
  (case k1 => k_asm)
  (case k2 => k_asm)
  (case k3 => k_asm)
  (case k4 => k_asm)
  (case k5 => k_asm)
  (case k6 => k_is)
  (case k7 => k_is)
  (case k8 => ktr_room)
  (case k9 => k_dflt (exact BindsTo.of_eq rfl))
  (case c5 => decide)
  (case kB => exact locs rfl)
  (case c2 => exact rfl)
  (case c3 => exact rfl)
  (case c4 => exact rfl)
  intro g' L' h' FG' F' N' B' X' T'
  (try dsimp only)
  (try k_fold)

  k_steps
  all_goals (try dsimp only)
  · (rw [leave_num_out (by assumption)] at hret; (rename News _ _ _ _ => NN); (rename Obj.IsDictOf _ _ _ => HH); exact ret_of hret (by k_asm) (fin_one NN hne hoM hoF (by walk_at "own k_subset") ⟨_, _, _, _, HH⟩ hD rfl (by with_reducible exact List.push_toArray _ _) (.cons (.str _ _) (.cons (.int _ _) (.cons (.int _ _) .nil))) (by walk_at "own lt_of") (by walk_at "own lt_of") (by walk_at "own lt_of")))
  · (rw [leave_num_in (by assumption)] at hret; (rename News _ _ _ _ => NN); (rename Obj.IsDictOf _ _ _ => HH); refine' ret_of hret ?F (fin_same NN hne hoM hoF ?S ⟨_, _, _, _, HH⟩ hD); (case F => k_asm); (case S => walk_at "own k_subset"))
end
end Mine
namespace Mine
section
set_option maxHeartbeats 1000000
theorem str_beq_comm {x y : Str} : (x == y) = (y == x) := BEq.comm
theorem sgn_len (o : Option Nat) : (sgn o).length ≤ 1 := by cases o with | none => decide | some c => exact Nat.le_refl 1
theorem sgn_c {o : Option Nat} (c : Nat) {x : Str} (hx : x = ⟨#[c]⟩) (h : (sgn o == x) = true) : o = some c := by
  subst hx; rw [sgn_eq] at h; exact of_decide_eq_true h
theorem sgn_n {o : Option Nat} (c : Nat) {x : Str} (hx : x = ⟨#[c]⟩) (h : (sgn o == x) = false) : o ≠ some c := by
  subst hx; rw [sgn_eq] at h; exact of_decide_eq_false h
theorem in_rem_nl {o : Option Nat} {he : Str} {fo : List Dat} {be fa sp : Int} (h : (sgn o == Str.ofString "\n") = true) : inside ⟨Str.ofString "remark", he, fo, be, fa⟩ o sp = ⟨Str.ofString "", he, fo, be, fa⟩ := by
  rw [sgn_c 10 rfl h]; rfl
theorem in_rem_no {o : Option Nat} {he : Str} {fo : List Dat} {be fa sp : Int} (h : (sgn o == Str.ofString "\n") = false) : inside ⟨Str.ofString "remark", he, fo, be, fa⟩ o sp = ⟨Str.ofString "remark", he, fo, be, fa⟩ := by
  unfold inside
  rw [if_pos (by exact beq_self_eq_true _), if_neg (sgn_n 10 rfl h)]
theorem in_dot_y {o : Option Nat} {he : Str} {fo : List Dat} {be fa sp : Int} (h : (sgn o == Str.ofString ".") = true) : inside ⟨Str.ofString "dot", he, fo, be, fa⟩ o sp = ⟨Str.ofString "", he, fo ++ [tokS (Str.ofString "sign") (Str.ofString "..") be], be, fa⟩ := by
  rw [sgn_c 46 rfl h]; rfl
theorem in_dot_n {o : Option Nat} {he : Str} {fo : List Dat} {be fa sp : Int} (h : (sgn o == Str.ofString ".") = false) : inside ⟨Str.ofString "dot", he, fo, be, fa⟩ o sp = ⟨Str.ofString "", he, fo, be, be⟩ := by
  unfold inside
  dsimp only
  rw [if_neg (by decide +kernel), if_pos (by exact beq_self_eq_true _), if_neg (sgn_n 46 rfl h)]
theorem in_slash_a {he : Str} {fo : List Dat} {be fa sp : Int} : inside ⟨Str.ofString "slash", he, fo, be, fa⟩ (some 110) sp = ⟨Str.ofString "quote", he ++ Str.ofString "\n", fo, be, fa⟩ := by rfl
theorem in_slash_b {o : Option Nat} {he : Str} {fo : List Dat} {be fa sp : Int} (hn : (sgn o == Str.ofString "n") = false) (h : ([Str.ofString "n", Str.ofString "\"", Str.ofString "\\"].any fun x => x == sgn o) = true) : inside ⟨Str.ofString "slash", he, fo, be, fa⟩ o sp = ⟨Str.ofString "quote", he ++ sgn o, fo, be, fa⟩ := by
  have q := sgn_n 110 rfl hn
  unfold inside
  dsimp only
  rw [if_neg (by decide +kernel), if_neg (by decide +kernel), if_pos (by exact beq_self_eq_true _), if_neg q]
  simp only [List.any_cons, List.any_nil, Bool.or_false, Bool.or_eq_true] at h
  rw [if_pos]
  rcases h with h | h | h
  · rw [str_beq_comm] at h
    exact .inl (sgn_c 110 rfl h)
  · rw [str_beq_comm] at h
    exact .inr (.inl (sgn_c 34 rfl h))
  · rw [str_beq_comm] at h
    exact .inr (.inr (sgn_c 92 rfl h))
theorem in_slash_c {o : Option Nat} {he : Str} {fo : List Dat} {be fa sp : Int} (hn : (sgn o == Str.ofString "n") = false) (h : ([Str.ofString "n", Str.ofString "\"", Str.ofString "\\"].any fun x => x == sgn o) = false) : inside ⟨Str.ofString "slash", he, fo, be, fa⟩ o sp = ⟨Str.ofString "quote", he ++ sgn o, fo, be, sp - 1⟩ := by
  have q := sgn_n 110 rfl hn
  unfold inside
  dsimp only
  rw [if_neg (by decide +kernel), if_neg (by decide +kernel), if_pos (by exact beq_self_eq_true _), if_neg q]
  simp only [List.any_cons, List.any_nil, Bool.or_false, Bool.or_eq_false_iff] at h
  rw [if_neg]
  rw [str_beq_comm (x := Str.ofString "\""), str_beq_comm (x := Str.ofString "\\")] at h
  rintro (e | e | e)
  · exact q e
  · exact sgn_n 34 rfl h.2.1 e
  · exact sgn_n 92 rfl h.2.2 e
theorem in_q_end {o : Option Nat} {he : Str} {fo : List Dat} {be fa sp : Int} (h : (sgn o == Str.ofString "\"") = true) : inside ⟨Str.ofString "quote", he, fo, be, fa⟩ o sp = ⟨Str.ofString "", he, fo ++ [tokS (Str.ofString "text") he be], be, fa⟩ := by
  rw [sgn_c 34 rfl h]; rfl
theorem in_q_sl {o : Option Nat} {he : Str} {fo : List Dat} {be fa sp : Int} (h : (sgn o == Str.ofString "\\") = true) : inside ⟨Str.ofString "quote", he, fo, be, fa⟩ o sp = ⟨Str.ofString "slash", he, fo, be, fa⟩ := by
  rw [sgn_c 92 rfl h]; rfl
theorem in_q_nl {o : Option Nat} {he : Str} {fo : List Dat} {be fa sp : Int} (h : ([Str.ofString "", Str.ofString "\n"].any fun x => x == sgn o) = true) : inside ⟨Str.ofString "quote", he, fo, be, fa⟩ o sp = ⟨Str.ofString "quote", he, fo, be, be⟩ := by
  simp only [List.any_cons, List.any_nil, Bool.or_false, Bool.or_eq_true] at h
  rcases h with h | h
  · cases o with
    | none => rfl
    | some c => rw [str_beq_comm, show sgn (some c) = ⟨#[c]⟩ from rfl, one_empty] at h; cases h
  · rw [str_beq_comm] at h
    rw [sgn_c 10 rfl h]; rfl
theorem in_q_go {o : Option Nat} {he : Str} {fo : List Dat} {be fa sp : Int} (h1 : (sgn o == Str.ofString "\"") = false) (h2 : (sgn o == Str.ofString "\\") = false) (h : ([Str.ofString "", Str.ofString "\n"].any fun x => x == sgn o) = false) : inside ⟨Str.ofString "quote", he, fo, be, fa⟩ o sp = ⟨Str.ofString "quote", he ++ sgn o, fo, be, fa⟩ := by
  have q1 := sgn_n 34 rfl h1
  have q2 := sgn_n 92 rfl h2
  simp only [List.any_cons, List.any_nil, Bool.or_false, Bool.or_eq_false_iff] at h
  rw [str_beq_comm (x := Str.ofString "\n")] at h
  have q3 := sgn_n 10 rfl h.2
  have q4 : o ≠ none := by rintro rfl; exact absurd h.1 (by decide +kernel)
  unfold inside
  dsimp only
  rw [if_neg (by decide +kernel), if_neg (by decide +kernel), if_neg (by decide +kernel), if_neg q1, if_neg q2, if_neg (by rintro (e | e); exact q4 e; exact q3 e)]
theorem get_none {o : Option Nat} {t : Tok} {v : Value} (h : (sgn o == Str.ofString "n") = false) : valueAt (strPairs [(Value.str (Str.ofString "n") t, v)]) (sgn o) = none := by
  have q : ¬ sgn o = Str.ofString "n" := by intro e; rw [e] at h; exact absurd h (by decide +kernel)
  have q' : ¬ Str.ofString "n" = sgn o := fun e => q e.symm
  simp [strPairs, valueAt, q']
end
end Mine
namespace Mine
section
theorem fresh_InR : True := by w_top off; trivial
set_option maxHeartbeats 1000000
local macro_rules | `(tactic| walk_at "subscriptTail") => `(tactic| (k_here; (with_reducible show wpAny _ _ (subscriptTail _ _ (Value.ref _) (Value.str _ _)) _ _ _); k_dflt (refine' mget ?N ?mm ?hd ?hv ?_; (case N => k_asm); (case mm => k_mem); (case hd => assumption); (case hv => rfl))))
local macro_rules | `(tactic| walk_at "setItem ref str") => `(tactic| (k_here; k_dflt (first
  | ((with_reducible show wpAny _ _ (setItem (Value.ref _) (Value.str (Str.ofString "mode") _) _) _ _ _); refine' mput_mode ?F ?N ?U ?hd ?_; (case F => k_asm); (case N => k_asm); (case U => k_updF); (case hd => assumption))
  | ((with_reducible show wpAny _ _ (setItem (Value.ref _) (Value.str (Str.ofString "held") _) _) _ _ _); refine' mput_held ?F ?N ?U ?hd ?_; (case F => k_asm); (case N => k_asm); (case U => k_updF); (case hd => assumption))
  | ((with_reducible show wpAny _ _ (setItem (Value.ref _) (Value.str (Str.ofString "begin") _) _) _ _ _); refine' mput_begin ?F ?N ?U ?hd ?_; (case F => k_asm); (case N => k_asm); (case U => k_updF); (case hd => assumption))
  | ((with_reducible show wpAny _ _ (setItem (Value.ref _) (Value.str (Str.ofString "fault") _) _) _ _ _); refine' mput_fault ?F ?N ?U ?hd ?_; (case F => k_asm); (case N => k_asm); (case U => k_updF); (case hd => assumption))); intro h' o' F' N' hd'; (try dsimp only at N'); (try dsimp only); (try k_sweep)))
local macro_rules | `(tactic| k_all) => `(tactic| assumption)
local macro_rules | `(tactic| walk_at "own lt_of") => `(tactic| (first | assumption | (rename _ ∧ _ => nn; with_reducible first | exact nn.1 | exact nn.2.1 | exact nn.2.2 | exact nn.2.2.1 | exact nn.2.2.2 | exact nn.2.2.2.1 | exact nn.2.2.2.2 | exact nn.2.2.2.2.1 | exact nn.2.2.2.2.2)))
theorem in_remark (w : World) (mean : ExcName → Option Value) (mg mb : Str → Option Value) (dM lF : Nat) (oM : Obj) (o : Option Nat) (he : Str) (be fa sp : Int) (vs : List Value) (n : Nat) (fo : List Dat) (t1 t2 t3 t4 t5 t6 : Tok) (tl dl : Led)
   (hne : @Ne Nat dM lF) (hoM : ∀ p ∈ tl, p.1 ≠ dM) (hoF : ∀ p ∈ tl, p.1 ≠ lF) (hvs : vs.length ≤ 1000) (hD : DatAll dl vs fo)
   (hM : oM.IsDictOf (PySem.strKind PySem.Challenge.rw_nz0006_01.row.prog w) (MK (.str (Str.ofString "remark") t1) lF (.str he t2) (.int be t3) (.int fa t4)))  :
   Spec w mean mg mb 183 [.ref dM, .str (sgn o) t5, .int sp t6] ((dM, oM) :: (lF, listOf vs.toArray n) :: tl) 24 60 (MPost w dM lF (inside ⟨Str.ofString "remark", he, fo, be, fa⟩ o sp) ((dM, oM) :: (lF, listOf vs.toArray n) :: tl) tl dl) := by
  unfold Spec
  k_fill
  intro dp un gd cn cs a ccd cl outer A₀ base h₀ L m s Q E B F X N T hk hd hu hret
  refine wpAny_call ?_
  k_dflt (refine' code_def (binds := [(Str.ofString "machine", .ref dM), (Str.ofString "sign", .str (sgn o) t5), (Str.ofString "spot", .int sp t6)]) ?k1 ?k2 ?k3 ?k4 ?k5 ?kA ?kF ?kK ?k6 ?k7 ?k8 ?k9 ?kB ?_ ?c2 ?c3 ?c4 ?c5)
  (case kA => exact rfl)
  (case kF => exact rfl)
  (case kK => assumption)
  (case k1 => k_asm)
  (case k2 => k_asm)
  (case k3 => k_asm)
  (case k4 => k_asm)
  (case k5 => k_asm)
  (case k6 => k_is)
  (case k7 => k_is)
  (case k8 => ktr_room)
  (case k9 => k_dflt (exact BindsTo.of_eq rfl))
  (case c5 => decide)
  (case kB => exact locs rfl)
  (case c2 => exact rfl)
  (case c3 => exact rfl)
  (case c4 => exact rfl)
  intro g' L' h' FG' F' N' B' X' T'
  (try dsimp only)
  (try k_fold)

  k_steps
  all_goals (try dsimp only)
  · (rw [in_rem_nl (by assumption)] at hret; (rename News _ _ _ _ => NN); (rename Obj.IsDictOf _ _ _ => HH); exact ret_of hret (by k_asm) (fin_same NN hne hoM hoF (by walk_at "own k_subset") ⟨_, _, _, _, HH⟩ hD))
  · (rw [in_rem_no (by assumption)] at hret; (rename News _ _ _ _ => NN); (rename Obj.IsDictOf _ _ _ => HH); exact ret_of hret (by k_asm) (fin_same NN hne hoM hoF (by walk_at "own k_subset") ⟨_, _, _, _, HH⟩ hD))
end
end Mine
namespace Mine
section
local macro_rules | `(tactic| walk_at "own pad") => `(tactic| skip)
theorem fresh_InD : True := by w_top off; trivial
set_option maxHeartbeats 1000000
local macro_rules | `(tactic| walk_at "subscriptTail") => `(tactic| (k_here; (with_reducible show wpAny _ _ (subscriptTail _ _ (Value.ref _) (Value.str _ _)) _ _ _); k_dflt (refine' mget ?N ?mm ?hd ?hv ?_; (case N => k_asm); (case mm => k_mem); (case hd => assumption); (case hv => rfl))))
local macro_rules | `(tactic| walk_at "setItem ref str") => `(tactic| (k_here; k_dflt (first
  | ((with_reducible show wpAny _ _ (setItem (Value.ref _) (Value.str (Str.ofString "mode") _) _) _ _ _); refine' mput_mode ?F ?N ?U ?hd ?_; (case F => k_asm); (case N => k_asm); (case U => k_updF); (case hd => assumption))
  | ((with_reducible show wpAny _ _ (setItem (Value.ref _) (Value.str (Str.ofString "held") _) _) _ _ _); refine' mput_held ?F ?N ?U ?hd ?_; (case F => k_asm); (case N => k_asm); (case U => k_updF); (case hd => assumption))
  | ((with_reducible show wpAny _ _ (setItem (Value.ref _) (Value.str (Str.ofString "begin") _) _) _ _ _); refine' mput_begin ?F ?N ?U ?hd ?_; (case F => k_asm); (case N => k_asm); (case U => k_updF); (case hd => assumption))
  | ((with_reducible show wpAny _ _ (setItem (Value.ref _) (Value.str (Str.ofString "fault") _) _) _ _ _); refine' mput_fault ?F ?N ?U ?hd ?_; (case F => k_asm); (case N => k_asm); (case U => k_updF); (case hd => assumption))); intro h' o' F' N' hd'; (try dsimp only at N'); (try dsimp only); (try k_sweep)))
local macro_rules | `(tactic| k_all) => `(tactic| assumption)
local macro_rules | `(tactic| walk_at "own lt_of") => `(tactic| (first | assumption | (rename _ ∧ _ => nn; with_reducible first | exact nn.1 | exact nn.2.1 | exact nn.2.2 | exact nn.2.2.1 | exact nn.2.2.2 | exact nn.2.2.2.1 | exact nn.2.2.2.2 | exact nn.2.2.2.2.1 | exact nn.2.2.2.2.2)))
theorem in_dot (w : World) (mean : ExcName → Option Value) (mg mb : Str → Option Value) (dM lF : Nat) (oM : Obj) (o : Option Nat) (he : Str) (be fa sp : Int) (vs : List Value) (n : Nat) (fo : List Dat) (t1 t2 t3 t4 t5 t6 : Tok) (tl dl : Led)
   (hne : @Ne Nat dM lF) (hoM : ∀ p ∈ tl, p.1 ≠ dM) (hoF : ∀ p ∈ tl, p.1 ≠ lF) (hvs : vs.length ≤ 1000) (hD : DatAll dl vs fo)
   (hM : oM.IsDictOf (PySem.strKind PySem.Challenge.rw_nz0006_01.row.prog w) (MK (.str (Str.ofString "dot") t1) lF (.str he t2) (.int be t3) (.int fa t4)))  :
   Spec w mean mg mb 183 [.ref dM, .str (sgn o) t5, .int sp t6] ((dM, oM) :: (lF, listOf vs.toArray n) :: tl) 24 60 (MPost w dM lF (inside ⟨Str.ofString "dot", he, fo, be, fa⟩ o sp) ((dM, oM) :: (lF, listOf vs.toArray n) :: tl) tl dl) := by
  unfold Spec
  k_fill
  intro dp un gd cn cs a ccd cl outer A₀ base h₀ L m s Q E B F X N T hk hd hu hret
  refine wpAny_call ?_
  k_dflt (refine' code_def (binds := [(Str.ofString "machine", .ref dM), (Str.ofString "sign", .str (sgn o) t5), (Str.ofString "spot", .int sp t6)]) ?k1 ?k2 ?k3 ?k4 ?k5 ?kA ?kF ?kK ?k6 ?k7 ?k8 ?k9 ?kB ?_ ?c2 ?c3 ?c4 ?c5)
  (case kA => exact rfl)
  (case kF => exact rfl)
  (case kK => assumption)
  (case k1 => k_asm)
  (case k2 => k_asm)
  (case k3 => k_asm)
  (case k4 => k_asm)
  (case k5 => k_asm)
  (case k6 => k_is)
  (case k7 => k_is)
  (case k8 => ktr_room)
  (case k9 => k_dflt (exact BindsTo.of_eq rfl))
  (case c5 => decide)
  (case kB => exact locs rfl)
  (case c2 => exact rfl)
  (case c3 => exact rfl)
  (case c4 => exact rfl)
  intro g' L' h' FG' F' N' B' X' T'
  (try dsimp only)
  (try k_fold)

  k_steps
  all_goals (try dsimp only)
  · (rw [in_dot_y (by assumption)] at hret; (rename News _ _ _ _ => NN); (rename Obj.IsDictOf _ _ _ => HH); exact ret_of hret (by k_asm) (fin_one NN hne hoM hoF (by walk_at "own k_subset") ⟨_, _, _, _, HH⟩ hD rfl (by with_reducible exact List.push_toArray _ _) (.cons (.str _ _) (.cons (.str _ _) (.cons (.int _ _) .nil))) (by walk_at "own lt_of") (by walk_at "own lt_of") (by walk_at "own lt_of")))
  · (rw [in_dot_n (by assumption)] at hret; (rename News _ _ _ _ => NN); (rename Obj.IsDictOf _ _ _ => HH); exact ret_of hret (by k_asm) (fin_same NN hne hoM hoF (by walk_at "own k_subset") ⟨_, _, _, _, HH⟩ hD))
end
end Mine
namespace Mine
section
local macro_rules | `(tactic| walk_at "own pad") => `(tactic| skip)
theorem fresh_InS : True := by w_top off; trivial
set_option maxHeartbeats 1000000
local macro_rules | `(tactic| walk_at "subscriptTail") => `(tactic| (k_here; (with_reducible show wpAny _ _ (subscriptTail _ _ (Value.ref _) (Value.str _ _)) _ _ _); k_dflt (refine' mget ?N ?mm ?hd ?hv ?_; (case N => k_asm); (case mm => k_mem); (case hd => assumption); (case hv => rfl))))
local macro_rules | `(tactic| walk_at "setItem ref str") => `(tactic| (k_here; k_dflt (first
  | ((with_reducible show wpAny _ _ (setItem (Value.ref _) (Value.str (Str.ofString "mode") _) _) _ _ _); refine' mput_mode ?F ?N ?U ?hd ?_; (case F => k_asm); (case N => k_asm); (case U => k_updF); (case hd => assumption))
  | ((with_reducible show wpAny _ _ (setItem (Value.ref _) (Value.str (Str.ofString "held") _) _) _ _ _); refine' mput_held ?F ?N ?U ?hd ?_; (case F => k_asm); (case N => k_asm); (case U => k_updF); (case hd => assumption))
  | ((with_reducible show wpAny _ _ (setItem (Value.ref _) (Value.str (Str.ofString "begin") _) _) _ _ _); refine' mput_begin ?F ?N ?U ?hd ?_; (case F => k_asm); (case N => k_asm); (case U => k_updF); (case hd => assumption))
  | ((with_reducible show wpAny _ _ (setItem (Value.ref _) (Value.str (Str.ofString "fault") _) _) _ _ _); refine' mput_fault ?F ?N ?U ?hd ?_; (case F => k_asm); (case N => k_asm); (case U => k_updF); (case hd => assumption))); intro h' o' F' N' hd'; (try dsimp only at N'); (try dsimp only); (try k_sweep)))
local macro_rules | `(tactic| k_all) => `(tactic| assumption)
local macro_rules | `(tactic| walk_at "own lt_of") => `(tactic| (first | assumption | (rename _ ∧ _ => nn; with_reducible first | exact nn.1 | exact nn.2.1 | exact nn.2.2 | exact nn.2.2.1 | exact nn.2.2.2 | exact nn.2.2.2.1 | exact nn.2.2.2.2 | exact nn.2.2.2.2.1 | exact nn.2.2.2.2.2)))
theorem in_slash1 (w : World) (mean : ExcName → Option Value) (mg mb : Str → Option Value) (dM lF : Nat) (oM : Obj)  (he : Str) (be fa sp : Int) (vs : List Value) (n : Nat) (fo : List Dat) (t1 t2 t3 t4 t5 t6 : Tok) (tl dl : Led)
   (hne : @Ne Nat dM lF) (hoM : ∀ p ∈ tl, p.1 ≠ dM) (hoF : ∀ p ∈ tl, p.1 ≠ lF) (hvs : vs.length ≤ 1000) (hD : DatAll dl vs fo)
   (hM : oM.IsDictOf (PySem.strKind PySem.Challenge.rw_nz0006_01.row.prog w) (MK (.str (Str.ofString "slash") t1) lF (.str he t2) (.int be t3) (.int fa t4))) (hhl : he.length ≤ 1000) :
   Spec w mean mg mb 183 [.ref dM, .str (sgn (some 110)) t5, .int sp t6] ((dM, oM) :: (lF, listOf vs.toArray n) :: tl) 24 60 (MPost w dM lF (inside ⟨Str.ofString "slash", he, fo, be, fa⟩ (some 110) sp) ((dM, oM) :: (lF, listOf vs.toArray n) :: tl) tl dl) := by
  unfold Spec
  k_fill
  intro dp un gd cn cs a ccd cl outer A₀ base h₀ L m s Q E B F X N T hk hd hu hret
  refine wpAny_call ?_
  k_dflt (refine' code_def (binds := [(Str.ofString "machine", .ref dM), (Str.ofString "sign", .str (sgn (some 110)) t5), (Str.ofString "spot", .int sp t6)]) ?k1 ?k2 ?k3 ?k4 ?k5 ?kA ?kF ?kK ?k6 ?k7 ?k8 ?k9 ?kB ?_ ?c2 ?c3 ?c4 ?c5)
  (case kA => exact rfl)
  (case kF => exact rfl)
  (case kK => assumption)
  (case k1 => k_asm)
  (case k2 => k_asm)
  (case k3 => k_asm)
  (case k4 => k_asm)
  (case k5 => k_asm)
  (case k6 => k_is)
  (case k7 => k_is)
  (case k8 => ktr_room)
  (case k9 => k_dflt (exact BindsTo.of_eq rfl))
  (case c5 => decide)
  (case kB => exact locs rfl)
  (case c2 => exact rfl)
  (case c3 => exact rfl)
  (case c4 => exact rfl)
  intro g' L' h' FG' F' N' B' X' T'
  (try dsimp only)
  (try k_fold)

  k_steps
  all_goals (try dsimp only)
  · (rw [in_slash_a] at hret; (rename News _ _ _ _ => NN); (rename Obj.IsDictOf _ _ _ => HH); exact ret_of hret (by k_asm) (fin_same NN hne hoM hoF (by walk_at "own k_subset") ⟨_, _, _, _, HH⟩ hD))
local macro_rules | `(tactic| walk_at "call builtin:dict.get") => `(tactic| (k_here; k_dflt (refine kdg_get2 (knd := PySem.strKind _ _) (by k_asm) (by k_mem) (by k_asm) (by k_asm) (strKind_is _ _ _ _) none (get_none (by assumption)) ?_); (try dsimp only [Option.getD])))
theorem in_slash2 (w : World) (mean : ExcName → Option Value) (mg mb : Str → Option Value) (dM lF : Nat) (oM : Obj) (o : Option Nat) (he : Str) (be fa sp : Int) (vs : List Value) (n : Nat) (fo : List Dat) (t1 t2 t3 t4 t5 t6 : Tok) (tl dl : Led)
   (hne : @Ne Nat dM lF) (hoM : ∀ p ∈ tl, p.1 ≠ dM) (hoF : ∀ p ∈ tl, p.1 ≠ lF) (hvs : vs.length ≤ 1000) (hD : DatAll dl vs fo)
   (hM : oM.IsDictOf (PySem.strKind PySem.Challenge.rw_nz0006_01.row.prog w) (MK (.str (Str.ofString "slash") t1) lF (.str he t2) (.int be t3) (.int fa t4))) (hhl : he.length ≤ 1000) (hn : (sgn o == Str.ofString "n") = false) :
   Spec w mean mg mb 183 [.ref dM, .str (sgn o) t5, .int sp t6] ((dM, oM) :: (lF, listOf vs.toArray n) :: tl) 24 60 (MPost w dM lF (inside ⟨Str.ofString "slash", he, fo, be, fa⟩ o sp) ((dM, oM) :: (lF, listOf vs.toArray n) :: tl) tl dl) := by
  have hso := sgn_len o
  unfold Spec
  k_fill
  intro dp un gd cn cs a ccd cl outer A₀ base h₀ L m s Q E B F X N T hk hd hu hret
  refine wpAny_call ?_
  k_dflt (refine' code_def (binds := [(Str.ofString "machine", .ref dM), (Str.ofString "sign", .str (sgn o) t5), (Str.ofString "spot", .int sp t6)]) ?k1 ?k2 ?k3 ?k4 ?k5 ?kA ?kF ?kK ?k6 ?k7 ?k8 ?k9 ?kB ?_ ?c2 ?c3 ?c4 ?c5)
  (case kA => exact rfl)
  (case kF => exact rfl)
  (case kK => assumption)
  (case k1 => k_asm)
  (case k2 => k_asm)
  (case k3 => k_asm)
  (case k4 => k_asm)
  (case k5 => k_asm)
  (case k6 => k_is)
  (case k7 => k_is)
  (case k8 => ktr_room)
  (case k9 => k_dflt (exact BindsTo.of_eq rfl))
  (case c5 => decide)
  (case kB => exact locs rfl)
  (case c2 => exact rfl)
  (case c3 => exact rfl)
  (case c4 => exact rfl)
  intro g' L' h' FG' F' N' B' X' T'
  (try dsimp only)
  (try k_fold)

  k_steps
  all_goals (try dsimp only)

  · (rw [in_slash_b hn (by assumption)] at hret; (rename News _ _ _ _ => NN); (rename Obj.IsDictOf _ _ _ => HH); exact ret_of hret (by k_asm) (fin_same NN hne hoM hoF (by walk_at "own k_subset") ⟨_, _, _, _, HH⟩ hD))
  · (rw [in_slash_c hn (by assumption)] at hret; (rename News _ _ _ _ => NN); (rename Obj.IsDictOf _ _ _ => HH); exact ret_of hret (by k_asm) (fin_same NN hne hoM hoF (by walk_at "own k_subset") ⟨_, _, _, _, HH⟩ hD))
end
end Mine
namespace Mine
section
theorem fresh_InQ : True := by w_top off; trivial
set_option maxHeartbeats 1000000
local macro_rules | `(tactic| walk_at "subscriptTail") => `(tactic| (k_here; (with_reducible show wpAny _ _ (subscriptTail _ _ (Value.ref _) (Value.str _ _)) _ _ _); k_dflt (refine' mget ?N ?mm ?hd ?hv ?_; (case N => k_asm); (case mm => k_mem); (case hd => assumption); (case hv => rfl))))
local macro_rules | `(tactic| walk_at "setItem ref str") => `(tactic| (k_here; k_dflt (first
  | ((with_reducible show wpAny _ _ (setItem (Value.ref _) (Value.str (Str.ofString "mode") _) _) _ _ _); refine' mput_mode ?F ?N ?U ?hd ?_; (case F => k_asm); (case N => k_asm); (case U => k_updF); (case hd => assumption))
  | ((with_reducible show wpAny _ _ (setItem (Value.ref _) (Value.str (Str.ofString "held") _) _) _ _ _); refine' mput_held ?F ?N ?U ?hd ?_; (case F => k_asm); (case N => k_asm); (case U => k_updF); (case hd => assumption))
  | ((with_reducible show wpAny _ _ (setItem (Value.ref _) (Value.str (Str.ofString "begin") _) _) _ _ _); refine' mput_begin ?F ?N ?U ?hd ?_; (case F => k_asm); (case N => k_asm); (case U => k_updF); (case hd => assumption))
  | ((with_reducible show wpAny _ _ (setItem (Value.ref _) (Value.str (Str.ofString "fault") _) _) _ _ _); refine' mput_fault ?F ?N ?U ?hd ?_; (case F => k_asm); (case N => k_asm); (case U => k_updF); (case hd => assumption))); intro h' o' F' N' hd'; (try dsimp only at N'); (try dsimp only); (try k_sweep)))
local macro_rules | `(tactic| k_all) => `(tactic| assumption)
local macro_rules | `(tactic| walk_at "own lt_of") => `(tactic| (first | assumption | (rename _ ∧ _ => nn; with_reducible first | exact nn.1 | exact nn.2.1 | exact nn.2.2 | exact nn.2.2.1 | exact nn.2.2.2 | exact nn.2.2.2.1 | exact nn.2.2.2.2 | exact nn.2.2.2.2.1 | exact nn.2.2.2.2.2)))
theorem in_quote (w : World) (mean : ExcName → Option Value) (mg mb : Str → Option Value) (dM lF : Nat) (oM : Obj) (o : Option Nat) (he : Str) (be fa sp : Int) (vs : List Value) (n : Nat) (fo : List Dat) (t1 t2 t3 t4 t5 t6 : Tok) (tl dl : Led)
   (hne : @Ne Nat dM lF) (hoM : ∀ p ∈ tl, p.1 ≠ dM) (hoF : ∀ p ∈ tl, p.1 ≠ lF) (hvs : vs.length ≤ 1000) (hD : DatAll dl vs fo)
   (hM : oM.IsDictOf (PySem.strKind PySem.Challenge.rw_nz0006_01.row.prog w) (MK (.str (Str.ofString "quote") t1) lF (.str he t2) (.int be t3) (.int fa t4))) (hhl : he.length ≤ 1000) :
   Spec w mean mg mb 183 [.ref dM, .str (sgn o) t5, .int sp t6] ((dM, oM) :: (lF, listOf vs.toArray n) :: tl) 24 60 (MPost w dM lF (inside ⟨Str.ofString "quote", he, fo, be, fa⟩ o sp) ((dM, oM) :: (lF, listOf vs.toArray n) :: tl) tl dl) := by
  have hso := sgn_len o
  unfold Spec
  k_fill
  intro dp un gd cn cs a ccd cl outer A₀ base h₀ L m s Q E B F X N T hk hd hu hret
  refine wpAny_call ?_
  k_dflt (refine' code_def (binds := [(Str.ofString "machine", .ref dM), (Str.ofString "sign", .str (sgn o) t5), (Str.ofString "spot", .int sp t6)]) ?k1 ?k2 ?k3 ?k4 ?k5 ?kA ?kF ?kK ?k6 ?k7 ?k8 ?k9 ?kB ?_ ?c2 ?c3 ?c4 ?c5)
  (case kA => exact rfl)
  (case kF => exact rfl)
  (case kK => assumption)
  (case k1 => k_asm)
  (case k2 => k_asm)
  (case k3 => k_asm)
  (case k4 => k_asm)
  (case k5 => k_asm)
  (case k6 => k_is)
  (case k7 => k_is)
  (case k8 => ktr_room)
  (case k9 => k_dflt (exact BindsTo.of_eq rfl))
  (case c5 => decide)
  (case kB => exact locs rfl)
  (case c2 => exact rfl)
  (case c3 => exact rfl)
  (case c4 => exact rfl)
  intro g' L' h' FG' F' N' B' X' T'
  (try dsimp only)
  (try k_fold)

  k_steps
  all_goals (try dsimp only)
  · (rw [in_q_end (by assumption)] at hret; (rename News _ _ _ _ => NN); (rename Obj.IsDictOf _ _ _ => HH); exact ret_of hret (by k_asm) (fin_one NN hne hoM hoF (by walk_at "own k_subset") ⟨_, _, _, _, HH⟩ hD rfl (by with_reducible exact List.push_toArray _ _) (.cons (.str _ _) (.cons (.str _ _) (.cons (.int _ _) .nil))) (by walk_at "own lt_of") (by walk_at "own lt_of") (by walk_at "own lt_of")))
  · (rw [in_q_sl (by assumption)] at hret; (rename News _ _ _ _ => NN); (rename Obj.IsDictOf _ _ _ => HH); exact ret_of hret (by k_asm) (fin_same NN hne hoM hoF (by walk_at "own k_subset") ⟨_, _, _, _, HH⟩ hD))
  · (rw [in_q_nl (by assumption)] at hret; (rename News _ _ _ _ => NN); (rename Obj.IsDictOf _ _ _ => HH); exact ret_of hret (by k_asm) (fin_same NN hne hoM hoF (by walk_at "own k_subset") ⟨_, _, _, _, HH⟩ hD))
  · (rw [in_q_go (by assumption) (by assumption) (by assumption)] at hret; (rename News _ _ _ _ => NN); (rename Obj.IsDictOf _ _ _ => HH); exact ret_of hret (by k_asm) (fin_same NN hne hoM hoF (by walk_at "own k_subset") ⟨_, _, _, _, HH⟩ hD))
end
end Mine
namespace Mine
section
set_option maxHeartbeats 1000000
theorem out_letter {o : Option Nat} {mo he : Str} {fo : List Dat} {be fa sp : Int} : outside ⟨mo, he, fo, be, fa⟩ o (Str.ofString "letter") sp = ⟨Str.ofString "word", sgn o, fo, sp, fa⟩ := by rfl
theorem out_digit {o : Option Nat} {mo he : Str} {fo : List Dat} {be fa sp : Int} : outside ⟨mo, he, fo, be, fa⟩ o (Str.ofString "digit") sp = ⟨Str.ofString "number", sgn o, fo, sp, fa⟩ := by rfl
theorem out_mark {o : Option Nat} {mo he : Str} {fo : List Dat} {be fa sp : Int} : outside ⟨mo, he, fo, be, fa⟩ o (Str.ofString "mark") sp = ⟨mo, sgn o, fo ++ [tokS (Str.ofString "sign") (sgn o) sp], sp, fa⟩ := by rfl
theorem out_pct {o : Option Nat} {mo he : Str} {fo : List Dat} {be fa sp : Int} : outside ⟨mo, he, fo, be, fa⟩ o (Str.ofString "%") sp = ⟨Str.ofString "remark", Str.ofString "", fo, sp, fa⟩ := by rfl
theorem out_dot {o : Option Nat} {mo he : Str} {fo : List Dat} {be fa sp : Int} : outside ⟨mo, he, fo, be, fa⟩ o (Str.ofString ".") sp = ⟨Str.ofString "dot", Str.ofString "", fo, sp, fa⟩ := by rfl
theorem out_minus {o : Option Nat} {mo he : Str} {fo : List Dat} {be fa sp : Int} : outside ⟨mo, he, fo, be, fa⟩ o (Str.ofString "-") sp = ⟨Str.ofString "minus", Str.ofString "-", fo, sp, fa⟩ := by rfl
theorem out_quote {o : Option Nat} {mo he : Str} {fo : List Dat} {be fa sp : Int} : outside ⟨mo, he, fo, be, fa⟩ o (Str.ofString "\"") sp = ⟨Str.ofString "quote", Str.ofString "", fo, sp, fa⟩ := by rfl
theorem out_blank {o : Option Nat} {mo he : Str} {fo : List Dat} {be fa sp : Int} : outside ⟨mo, he, fo, be, fa⟩ o (Str.ofString "blank") sp = ⟨mo, sgn o, fo, sp, fa⟩ := by rfl
theorem out_end {o : Option Nat} {mo he : Str} {fo : List Dat} {be fa sp : Int} : outside ⟨mo, he, fo, be, fa⟩ o (Str.ofString "end") sp = ⟨mo, sgn o, fo, sp, fa⟩ := by rfl
theorem out_else {o : Option Nat} {so mo he : Str} {fo : List Dat} {be fa sp : Int} (h0 : (so == Str.ofString "letter") = false) (h1 : (so == Str.ofString "digit") = false) (h2 : (so == Str.ofString "mark") = false) (h3 : (so == Str.ofString "%") = false) (h4 : (so == Str.ofString ".") = false) (h5 : (so == Str.ofString "-") = false) (h6 : (so == Str.ofString "\"") = false) (h7 : (so == Str.ofString "blank") = false) (h8 : (so == Str.ofString "end") = false) : outside ⟨mo, he, fo, be, fa⟩ o so sp = ⟨mo, sgn o, fo, sp, sp⟩ := by
  unfold outside
  simp only [h0, h1, h2, h3, h4, h5, h6, h7, h8, Bool.false_eq_true, if_false]
theorem any2_false {so x y : Str} (h1 : (so == x) = false) (h2 : (so == y) = false) : ([x, y].any fun z => z == so) = false := by
  simp only [List.any_cons, List.any_nil, Bool.or_false, Bool.or_eq_false_iff]
  exact ⟨(BEq.comm).trans h1, (BEq.comm).trans h2⟩
theorem any4_false {so x y z u : Str} (h1 : (so == x) = false) (h2 : (so == y) = false) (h3 : (so == z) = false) (h4 : (so == u) = false) : ([x, y, z, u].any fun z => z == so) = false := by
  simp only [List.any_cons, List.any_nil, Bool.or_false, Bool.or_eq_false_iff]
  exact ⟨(BEq.comm).trans h1, (BEq.comm).trans h2, (BEq.comm).trans h3, (BEq.comm).trans h4⟩
end
end Mine
namespace Mine
section
theorem fresh_OutA : True := by w_top off; trivial
set_option maxHeartbeats 1000000
local macro_rules | `(tactic| walk_at "subscriptTail") => `(tactic| (k_here; (with_reducible show wpAny _ _ (subscriptTail _ _ (Value.ref _) (Value.str _ _)) _ _ _); k_dflt (refine' mget ?N ?mm ?hd ?hv ?_; (case N => k_asm); (case mm => k_mem); (case hd => assumption); (case hv => rfl))))
local macro_rules | `(tactic| walk_at "setItem ref str") => `(tactic| (k_here; k_dflt (first
  | ((with_reducible show wpAny _ _ (setItem (Value.ref _) (Value.str (Str.ofString "mode") _) _) _ _ _); refine' mput_mode ?F ?N ?U ?hd ?_; (case F => k_asm); (case N => k_asm); (case U => k_updF); (case hd => assumption))
  | ((with_reducible show wpAny _ _ (setItem (Value.ref _) (Value.str (Str.ofString "held") _) _) _ _ _); refine' mput_held ?F ?N ?U ?hd ?_; (case F => k_asm); (case N => k_asm); (case U => k_updF); (case hd => assumption))
  | ((with_reducible show wpAny _ _ (setItem (Value.ref _) (Value.str (Str.ofString "begin") _) _) _ _ _); refine' mput_begin ?F ?N ?U ?hd ?_; (case F => k_asm); (case N => k_asm); (case U => k_updF); (case hd => assumption))
  | ((with_reducible show wpAny _ _ (setItem (Value.ref _) (Value.str (Str.ofString "fault") _) _) _ _ _); refine' mput_fault ?F ?N ?U ?hd ?_; (case F => k_asm); (case N => k_asm); (case U => k_updF); (case hd => assumption))); intro h' o' F' N' hd'; (try dsimp only at N'); (try dsimp only); (try k_sweep)))
local macro_rules | `(tactic| k_all) => `(tactic| assumption)
local macro_rules | `(tactic| walk_at "compareOp In str ref") => `(tactic| (k_here; (with_reducible show wpAny _ _ (compareOp CmpOp.In (Value.str _ _) (Value.ref _)) _ _ _); k_dflt (first
  | (refine in_tup4 true (by exact News.isTup (by k_asm) (by news_mem)) (by decide +kernel) ?_)
  | (refine in_tup4 false (by exact News.isTup (by k_asm) (by news_mem)) (by decide +kernel) ?_))))
local macro_rules | `(tactic| walk_at "ite") => `(tactic| (k_here; first | with_reducible refine ite_tt ?_ | with_reducible refine ite_ff ?_))
local macro_rules | `(tactic| walk_at "own lt_of") => `(tactic| (first | assumption | (rename _ ∧ _ => nn; with_reducible first | exact nn.1 | exact nn.2.1 | exact nn.2.2 | exact nn.2.2.1 | exact nn.2.2.2 | exact nn.2.2.2.1 | exact nn.2.2.2.2 | exact nn.2.2.2.2.1 | exact nn.2.2.2.2.2)))
theorem out_spec_letter (w : World) (mean : ExcName → Option Value) (mg mb : Str → Option Value) (dM lF : Nat) (oM : Obj) (o : Option Nat)  (mo he : Str) (be fa sp : Int) (vs : List Value) (n : Nat) (fo : List Dat) (t1 t2 t3 t4 t5 t6 t7 : Tok) (tl dl : Led)
   (hne : @Ne Nat dM lF) (hoM : ∀ p ∈ tl, p.1 ≠ dM) (hoF : ∀ p ∈ tl, p.1 ≠ lF) (hvs : vs.length ≤ 1000) (hD : DatAll dl vs fo)
   (hM : oM.IsDictOf (PySem.strKind PySem.Challenge.rw_nz0006_01.row.prog w) (MK (.str mo t1) lF (.str he t2) (.int be t3) (.int fa t4)))  :
   Spec w mean mg mb 190 [.ref dM, .str (sgn o) t5, .str (Str.ofString "letter") t7, .int sp t6] ((dM, oM) :: (lF, listOf vs.toArray n) :: tl) 24 60 (MPost w dM lF (outside ⟨mo, he, fo, be, fa⟩ o (Str.ofString "letter") sp) ((dM, oM) :: (lF, listOf vs.toArray n) :: tl) tl dl) := by
  unfold Spec
  k_fill
  intro dp un gd cn cs a ccd cl outer A₀ base h₀ L m s Q E B F X N T hk hd hu hret
  refine wpAny_call ?_
  k_dflt (refine' code_def (binds := [(Str.ofString "machine", .ref dM), (Str.ofString "sign", .str (sgn o) t5), (Str.ofString "sort", .str (Str.ofString "letter") t7), (Str.ofString "spot", .int sp t6)]) ?k1 ?k2 ?k3 ?k4 ?k5 ?kA ?kF ?kK ?k6 ?k7 ?k8 ?k9 ?kB ?_ ?c2 ?c3 ?c4 ?c5)
  (case kA => exact rfl)
  (case kF => exact rfl)
  (case kK => assumption)
  (case k1 => k_asm)
  (case k2 => k_asm)
  (case k3 => k_asm)
  (case k4 => k_asm)
  (case k5 => k_asm)
  (case k6 => k_is)
  (case k7 => k_is)
  (case k8 => ktr_room)
  (case k9 => k_dflt (exact BindsTo.of_eq rfl))
  (case c5 => decide)
  (case kB => exact locs rfl)
  (case c2 => exact rfl)
  (case c3 => exact rfl)
  (case c4 => exact rfl)
  intro g' L' h' FG' F' N' B' X' T'
  (try dsimp only)
  (try k_fold)

  k_steps
  all_goals (try dsimp only)
  · (rw [out_letter] at hret; (rename News _ _ _ _ => NN); (rename Obj.IsDictOf _ _ _ => HH); exact ret_of hret (by k_asm) (fin_same NN hne hoM hoF (by walk_at "own k_subset") ⟨_, _, _, _, HH⟩ hD))
theorem out_spec_digit (w : World) (mean : ExcName → Option Value) (mg mb : Str → Option Value) (dM lF : Nat) (oM : Obj) (o : Option Nat)  (mo he : Str) (be fa sp : Int) (vs : List Value) (n : Nat) (fo : List Dat) (t1 t2 t3 t4 t5 t6 t7 : Tok) (tl dl : Led)
   (hne : @Ne Nat dM lF) (hoM : ∀ p ∈ tl, p.1 ≠ dM) (hoF : ∀ p ∈ tl, p.1 ≠ lF) (hvs : vs.length ≤ 1000) (hD : DatAll dl vs fo)
   (hM : oM.IsDictOf (PySem.strKind PySem.Challenge.rw_nz0006_01.row.prog w) (MK (.str mo t1) lF (.str he t2) (.int be t3) (.int fa t4)))  :
   Spec w mean mg mb 190 [.ref dM, .str (sgn o) t5, .str (Str.ofString "digit") t7, .int sp t6] ((dM, oM) :: (lF, listOf vs.toArray n) :: tl) 24 60 (MPost w dM lF (outside ⟨mo, he, fo, be, fa⟩ o (Str.ofString "digit") sp) ((dM, oM) :: (lF, listOf vs.toArray n) :: tl) tl dl) := by
  unfold Spec
  k_fill
  intro dp un gd cn cs a ccd cl outer A₀ base h₀ L m s Q E B F X N T hk hd hu hret
  refine wpAny_call ?_
  k_dflt (refine' code_def (binds := [(Str.ofString "machine", .ref dM), (Str.ofString "sign", .str (sgn o) t5), (Str.ofString "sort", .str (Str.ofString "digit") t7), (Str.ofString "spot", .int sp t6)]) ?k1 ?k2 ?k3 ?k4 ?k5 ?kA ?kF ?kK ?k6 ?k7 ?k8 ?k9 ?kB ?_ ?c2 ?c3 ?c4 ?c5)
  (case kA => exact rfl)
  (case kF => exact rfl)
  (case kK => assumption)
  (case k1 => k_asm)
  (case k2 => k_asm)
  (case k3 => k_asm)
  (case k4 => k_asm)
  (case k5 => k_asm)
  (case k6 => k_is)
  (case k7 => k_is)
  (case k8 => ktr_room)
  (case k9 => k_dflt (exact BindsTo.of_eq rfl))
  (case c5 => decide)
  (case kB => exact locs rfl)
  (case c2 => exact rfl)
  (case c3 => exact rfl)
  (case c4 => exact rfl)
  intro g' L' h' FG' F' N' B' X' T'
  (try dsimp only)
  (try k_fold)

  k_steps
  all_goals (try dsimp only)
  · (rw [out_digit] at hret; (rename News _ _ _ _ => NN); (rename Obj.IsDictOf _ _ _ => HH); exact ret_of hret (by k_asm) (fin_same NN hne hoM hoF (by walk_at "own k_subset") ⟨_, _, _, _, HH⟩ hD))
end
end Mine
namespace Mine
section
local macro_rules | `(tactic| walk_at "own pad") => `(tactic| skip)
theorem fresh_OutB : True := by w_top off; trivial
set_option maxHeartbeats 1000000
local macro_rules | `(tactic| walk_at "subscriptTail") => `(tactic| (k_here; (with_reducible show wpAny _ _ (subscriptTail _ _ (Value.ref _) (Value.str _ _)) _ _ _); k_dflt (refine' mget ?N ?mm ?hd ?hv ?_; (case N => k_asm); (case mm => k_mem); (case hd => assumption); (case hv => rfl))))
local macro_rules | `(tactic| walk_at "setItem ref str") => `(tactic| (k_here; k_dflt (first
  | ((with_reducible show wpAny _ _ (setItem (Value.ref _) (Value.str (Str.ofString "mode") _) _) _ _ _); refine' mput_mode ?F ?N ?U ?hd ?_; (case F => k_asm); (case N => k_asm); (case U => k_updF); (case hd => assumption))
  | ((with_reducible show wpAny _ _ (setItem (Value.ref _) (Value.str (Str.ofString "held") _) _) _ _ _); refine' mput_held ?F ?N ?U ?hd ?_; (case F => k_asm); (case N => k_asm); (case U => k_updF); (case hd => assumption))
  | ((with_reducible show wpAny _ _ (setItem (Value.ref _) (Value.str (Str.ofString "begin") _) _) _ _ _); refine' mput_begin ?F ?N ?U ?hd ?_; (case F => k_asm); (case N => k_asm); (case U => k_updF); (case hd => assumption))
  | ((with_reducible show wpAny _ _ (setItem (Value.ref _) (Value.str (Str.ofString "fault") _) _) _ _ _); refine' mput_fault ?F ?N ?U ?hd ?_; (case F => k_asm); (case N => k_asm); (case U => k_updF); (case hd => assumption))); intro h' o' F' N' hd'; (try dsimp only at N'); (try dsimp only); (try k_sweep)))
local macro_rules | `(tactic| k_all) => `(tactic| assumption)
local macro_rules | `(tactic| walk_at "compareOp In str ref") => `(tactic| (k_here; (with_reducible show wpAny _ _ (compareOp CmpOp.In (Value.str _ _) (Value.ref _)) _ _ _); k_dflt (first
  | (refine in_tup4 true (by exact News.isTup (by k_asm) (by news_mem)) (by decide +kernel) ?_)
  | (refine in_tup4 false (by exact News.isTup (by k_asm) (by news_mem)) (by decide +kernel) ?_))))
local macro_rules | `(tactic| walk_at "ite") => `(tactic| (k_here; first | with_reducible refine ite_tt ?_ | with_reducible refine ite_ff ?_))
local macro_rules | `(tactic| walk_at "own lt_of") => `(tactic| (first | assumption | (rename _ ∧ _ => nn; with_reducible first | exact nn.1 | exact nn.2.1 | exact nn.2.2 | exact nn.2.2.1 | exact nn.2.2.2 | exact nn.2.2.2.1 | exact nn.2.2.2.2 | exact nn.2.2.2.2.1 | exact nn.2.2.2.2.2)))
theorem out_spec_mark (w : World) (mean : ExcName → Option Value) (mg mb : Str → Option Value) (dM lF : Nat) (oM : Obj) (o : Option Nat)  (mo he : Str) (be fa sp : Int) (vs : List Value) (n : Nat) (fo : List Dat) (t1 t2 t3 t4 t5 t6 t7 : Tok) (tl dl : Led)
   (hne : @Ne Nat dM lF) (hoM : ∀ p ∈ tl, p.1 ≠ dM) (hoF : ∀ p ∈ tl, p.1 ≠ lF) (hvs : vs.length ≤ 1000) (hD : DatAll dl vs fo)
   (hM : oM.IsDictOf (PySem.strKind PySem.Challenge.rw_nz0006_01.row.prog w) (MK (.str mo t1) lF (.str he t2) (.int be t3) (.int fa t4)))  :
   Spec w mean mg mb 190 [.ref dM, .str (sgn o) t5, .str (Str.ofString "mark") t7, .int sp t6] ((dM, oM) :: (lF, listOf vs.toArray n) :: tl) 24 60 (MPost w dM lF (outside ⟨mo, he, fo, be, fa⟩ o (Str.ofString "mark") sp) ((dM, oM) :: (lF, listOf vs.toArray n) :: tl) tl dl) := by
  unfold Spec
  k_fill
  intro dp un gd cn cs a ccd cl outer A₀ base h₀ L m s Q E B F X N T hk hd hu hret
  refine wpAny_call ?_
  k_dflt (refine' code_def (binds := [(Str.ofString "machine", .ref dM), (Str.ofString "sign", .str (sgn o) t5), (Str.ofString "sort", .str (Str.ofString "mark") t7), (Str.ofString "spot", .int sp t6)]) ?k1 ?k2 ?k3 ?k4 ?k5 ?kA ?kF ?kK ?k6 ?k7 ?k8 ?k9 ?kB ?_ ?c2 ?c3 ?c4 ?c5)
  (case kA => exact rfl)
  (case kF => exact rfl)
  (case kK => assumption)
  (case k1 => k_asm)
  (case k2 => k_asm)
  (case k3 => k_asm)
  (case k4 => k_asm)
  (case k5 => k_asm)
  (case k6 => k_is)
  (case k7 => k_is)
  (case k8 => ktr_room)
  (case k9 => k_dflt (exact BindsTo.of_eq rfl))
  (case c5 => decide)
  (case kB => exact locs rfl)
  (case c2 => exact rfl)
  (case c3 => exact rfl)
  (case c4 => exact rfl)
  intro g' L' h' FG' F' N' B' X' T'
  (try dsimp only)
  (try k_fold)

  k_steps
  all_goals (try dsimp only)
  · (rw [out_mark] at hret; (rename News _ _ _ _ => NN); (rename Obj.IsDictOf _ _ _ => HH); exact ret_of hret (by k_asm) (fin_one NN hne hoM hoF (by walk_at "own k_subset") ⟨_, _, _, _, HH⟩ hD rfl (by with_reducible exact List.push_toArray _ _) (.cons (.str _ _) (.cons (.str _ _) (.cons (.int _ _) .nil))) (by walk_at "own lt_of") (by walk_at "own lt_of") (by walk_at "own lt_of")))
theorem out_spec_blank (w : World) (mean : ExcName → Option Value) (mg mb : Str → Option Value) (dM lF : Nat) (oM : Obj) (o : Option Nat)  (mo he : Str) (be fa sp : Int) (vs : List Value) (n : Nat) (fo : List Dat) (t1 t2 t3 t4 t5 t6 t7 : Tok) (tl dl : Led)
   (hne : @Ne Nat dM lF) (hoM : ∀ p ∈ tl, p.1 ≠ dM) (hoF : ∀ p ∈ tl, p.1 ≠ lF) (hvs : vs.length ≤ 1000) (hD : DatAll dl vs fo)
   (hM : oM.IsDictOf (PySem.strKind PySem.Challenge.rw_nz0006_01.row.prog w) (MK (.str mo t1) lF (.str he t2) (.int be t3) (.int fa t4)))  :
   Spec w mean mg mb 190 [.ref dM, .str (sgn o) t5, .str (Str.ofString "blank") t7, .int sp t6] ((dM, oM) :: (lF, listOf vs.toArray n) :: tl) 24 60 (MPost w dM lF (outside ⟨mo, he, fo, be, fa⟩ o (Str.ofString "blank") sp) ((dM, oM) :: (lF, listOf vs.toArray n) :: tl) tl dl) := by
  unfold Spec
  k_fill
  intro dp un gd cn cs a ccd cl outer A₀ base h₀ L m s Q E B F X N T hk hd hu hret
  refine wpAny_call ?_
  k_dflt (refine' code_def (binds := [(Str.ofString "machine", .ref dM), (Str.ofString "sign", .str (sgn o) t5), (Str.ofString "sort", .str (Str.ofString "blank") t7), (Str.ofString "spot", .int sp t6)]) ?k1 ?k2 ?k3 ?k4 ?k5 ?kA ?kF ?kK ?k6 ?k7 ?k8 ?k9 ?kB ?_ ?c2 ?c3 ?c4 ?c5)
  (case kA => exact rfl)
  (case kF => exact rfl)
  (case kK => assumption)
  (case k1 => k_asm)
  (case k2 => k_asm)
  (case k3 => k_asm)
  (case k4 => k_asm)
  (case k5 => k_asm)
  (case k6 => k_is)
  (case k7 => k_is)
  (case k8 => ktr_room)
  (case k9 => k_dflt (exact BindsTo.of_eq rfl))
  (case c5 => decide)
  (case kB => exact locs rfl)
  (case c2 => exact rfl)
  (case c3 => exact rfl)
  (case c4 => exact rfl)
  intro g' L' h' FG' F' N' B' X' T'
  (try dsimp only)
  (try k_fold)

  k_steps
  all_goals (try dsimp only)
  · (rw [out_blank] at hret; (rename News _ _ _ _ => NN); (rename Obj.IsDictOf _ _ _ => HH); exact ret_of hret (by k_asm) (fin_same NN hne hoM hoF (by walk_at "own k_subset") ⟨_, _, _, _, HH⟩ hD))
theorem out_spec_end (w : World) (mean : ExcName → Option Value) (mg mb : Str → Option Value) (dM lF : Nat) (oM : Obj) (o : Option Nat)  (mo he : Str) (be fa sp : Int) (vs : List Value) (n : Nat) (fo : List Dat) (t1 t2 t3 t4 t5 t6 t7 : Tok) (tl dl : Led)
   (hne : @Ne Nat dM lF) (hoM : ∀ p ∈ tl, p.1 ≠ dM) (hoF : ∀ p ∈ tl, p.1 ≠ lF) (hvs : vs.length ≤ 1000) (hD : DatAll dl vs fo)
   (hM : oM.IsDictOf (PySem.strKind PySem.Challenge.rw_nz0006_01.row.prog w) (MK (.str mo t1) lF (.str he t2) (.int be t3) (.int fa t4)))  :
   Spec w mean mg mb 190 [.ref dM, .str (sgn o) t5, .str (Str.ofString "end") t7, .int sp t6] ((dM, oM) :: (lF, listOf vs.toArray n) :: tl) 24 60 (MPost w dM lF (outside ⟨mo, he, fo, be, fa⟩ o (Str.ofString "end") sp) ((dM, oM) :: (lF, listOf vs.toArray n) :: tl) tl dl) := by
  unfold Spec
  k_fill
  intro dp un gd cn cs a ccd cl outer A₀ base h₀ L m s Q E B F X N T hk hd hu hret
  refine wpAny_call ?_
  k_dflt (refine' code_def (binds := [(Str.ofString "machine", .ref dM), (Str.ofString "sign", .str (sgn o) t5), (Str.ofString "sort", .str (Str.ofString "end") t7), (Str.ofString "spot", .int sp t6)]) ?k1 ?k2 ?k3 ?k4 ?k5 ?kA ?kF ?kK ?k6 ?k7 ?k8 ?k9 ?kB ?_ ?c2 ?c3 ?c4 ?c5)
  (case kA => exact rfl)
  (case kF => exact rfl)
  (case kK => assumption)
  (case k1 => k_asm)
  (case k2 => k_asm)
  (case k3 => k_asm)
  (case k4 => k_asm)
  (case k5 => k_asm)
  (case k6 => k_is)
  (case k7 => k_is)
  (case k8 => ktr_room)
  (case k9 => k_dflt (exact BindsTo.of_eq rfl))
  (case c5 => decide)
  (case kB => exact locs rfl)
  (case c2 => exact rfl)
  (case c3 => exact rfl)
  (case c4 => exact rfl)
  intro g' L' h' FG' F' N' B' X' T'
  (try dsimp only)
  (try k_fold)

  k_steps
  all_goals (try dsimp only)
  · (rw [out_end] at hret; (rename News _ _ _ _ => NN); (rename Obj.IsDictOf _ _ _ => HH); exact ret_of hret (by k_asm) (fin_same NN hne hoM hoF (by walk_at "own k_subset") ⟨_, _, _, _, HH⟩ hD))
end
end Mine
namespace Mine
section
theorem fresh_OutC : True := by w_top off; trivial
set_option maxHeartbeats 1000000
local macro_rules | `(tactic| walk_at "subscriptTail") => `(tactic| (k_here; (with_reducible show wpAny _ _ (subscriptTail _ _ (Value.ref _) (Value.str _ _)) _ _ _); k_dflt (refine' mget ?N ?mm ?hd ?hv ?_; (case N => k_asm); (case mm => k_mem); (case hd => assumption); (case hv => rfl))))
local macro_rules | `(tactic| walk_at "setItem ref str") => `(tactic| (k_here; k_dflt (first
  | ((with_reducible show wpAny _ _ (setItem (Value.ref _) (Value.str (Str.ofString "mode") _) _) _ _ _); refine' mput_mode ?F ?N ?U ?hd ?_; (case F => k_asm); (case N => k_asm); (case U => k_updF); (case hd => assumption))
  | ((with_reducible show wpAny _ _ (setItem (Value.ref _) (Value.str (Str.ofString "held") _) _) _ _ _); refine' mput_held ?F ?N ?U ?hd ?_; (case F => k_asm); (case N => k_asm); (case U => k_updF); (case hd => assumption))
  | ((with_reducible show wpAny _ _ (setItem (Value.ref _) (Value.str (Str.ofString "begin") _) _) _ _ _); refine' mput_begin ?F ?N ?U ?hd ?_; (case F => k_asm); (case N => k_asm); (case U => k_updF); (case hd => assumption))
  | ((with_reducible show wpAny _ _ (setItem (Value.ref _) (Value.str (Str.ofString "fault") _) _) _ _ _); refine' mput_fault ?F ?N ?U ?hd ?_; (case F => k_asm); (case N => k_asm); (case U => k_updF); (case hd => assumption))); intro h' o' F' N' hd'; (try dsimp only at N'); (try dsimp only); (try k_sweep)))
local macro_rules | `(tactic| k_all) => `(tactic| assumption)
local macro_rules | `(tactic| walk_at "compareOp In str ref") => `(tactic| (k_here; (with_reducible show wpAny _ _ (compareOp CmpOp.In (Value.str _ _) (Value.ref _)) _ _ _); k_dflt (first
  | (refine in_tup4 true (by exact News.isTup (by k_asm) (by news_mem)) (by decide +kernel) ?_)
  | (refine in_tup4 false (by exact News.isTup (by k_asm) (by news_mem)) (by decide +kernel) ?_))))
local macro_rules | `(tactic| walk_at "ite") => `(tactic| (k_here; first | with_reducible refine ite_tt ?_ | with_reducible refine ite_ff ?_))
local macro_rules | `(tactic| walk_at "own lt_of") => `(tactic| (first | assumption | (rename _ ∧ _ => nn; with_reducible first | exact nn.1 | exact nn.2.1 | exact nn.2.2 | exact nn.2.2.1 | exact nn.2.2.2 | exact nn.2.2.2.1 | exact nn.2.2.2.2 | exact nn.2.2.2.2.1 | exact nn.2.2.2.2.2)))
theorem out_spec_pct (w : World) (mean : ExcName → Option Value) (mg mb : Str → Option Value) (dM lF : Nat) (oM : Obj) (o : Option Nat)  (mo he : Str) (be fa sp : Int) (vs : List Value) (n : Nat) (fo : List Dat) (t1 t2 t3 t4 t5 t6 t7 : Tok) (tl dl : Led)
   (hne : @Ne Nat dM lF) (hoM : ∀ p ∈ tl, p.1 ≠ dM) (hoF : ∀ p ∈ tl, p.1 ≠ lF) (hvs : vs.length ≤ 1000) (hD : DatAll dl vs fo)
   (hM : oM.IsDictOf (PySem.strKind PySem.Challenge.rw_nz0006_01.row.prog w) (MK (.str mo t1) lF (.str he t2) (.int be t3) (.int fa t4)))  :
   Spec w mean mg mb 190 [.ref dM, .str (sgn o) t5, .str (Str.ofString "%") t7, .int sp t6] ((dM, oM) :: (lF, listOf vs.toArray n) :: tl) 24 60 (MPost w dM lF (outside ⟨mo, he, fo, be, fa⟩ o (Str.ofString "%") sp) ((dM, oM) :: (lF, listOf vs.toArray n) :: tl) tl dl) := by
  unfold Spec
  k_fill
  intro dp un gd cn cs a ccd cl outer A₀ base h₀ L m s Q E B F X N T hk hd hu hret
  refine wpAny_call ?_
  k_dflt (refine' code_def (binds := [(Str.ofString "machine", .ref dM), (Str.ofString "sign", .str (sgn o) t5), (Str.ofString "sort", .str (Str.ofString "%") t7), (Str.ofString "spot", .int sp t6)]) ?k1 ?k2 ?k3 ?k4 ?k5 ?kA ?kF ?kK ?k6 ?k7 ?k8 ?k9 ?kB ?_ ?c2 ?c3 ?c4 ?c5)
  (case kA => exact rfl)
  (case kF => exact rfl)
  (case kK => assumption)
  (case k1 => k_asm)
  (case k2 => k_asm)
  (case k3 => k_asm)
  (case k4 => k_asm)
  (case k5 => k_asm)
  (case k6 => k_is)
  (case k7 => k_is)
  (case k8 => ktr_room)
  (case k9 => k_dflt (exact BindsTo.of_eq rfl))
  (case c5 => decide)
  (case kB => exact locs rfl)
  (case c2 => exact rfl)
  (case c3 => exact rfl)
  (case c4 => exact rfl)
  intro g' L' h' FG' F' N' B' X' T'
  (try dsimp only)
  (try k_fold)

  k_steps
  all_goals (try dsimp only)
  · (rw [out_pct] at hret; (rename News _ _ _ _ => NN); (rename Obj.IsDictOf _ _ _ => HH); exact ret_of hret (by k_asm) (fin_same NN hne hoM hoF (by walk_at "own k_subset") ⟨_, _, _, _, HH⟩ hD))
theorem out_spec_dot (w : World) (mean : ExcName → Option Value) (mg mb : Str → Option Value) (dM lF : Nat) (oM : Obj) (o : Option Nat)  (mo he : Str) (be fa sp : Int) (vs : List Value) (n : Nat) (fo : List Dat) (t1 t2 t3 t4 t5 t6 t7 : Tok) (tl dl : Led)
   (hne : @Ne Nat dM lF) (hoM : ∀ p ∈ tl, p.1 ≠ dM) (hoF : ∀ p ∈ tl, p.1 ≠ lF) (hvs : vs.length ≤ 1000) (hD : DatAll dl vs fo)
   (hM : oM.IsDictOf (PySem.strKind PySem.Challenge.rw_nz0006_01.row.prog w) (MK (.str mo t1) lF (.str he t2) (.int be t3) (.int fa t4)))  :
   Spec w mean mg mb 190 [.ref dM, .str (sgn o) t5, .str (Str.ofString ".") t7, .int sp t6] ((dM, oM) :: (lF, listOf vs.toArray n) :: tl) 24 60 (MPost w dM lF (outside ⟨mo, he, fo, be, fa⟩ o (Str.ofString ".") sp) ((dM, oM) :: (lF, listOf vs.toArray n) :: tl) tl dl) := by
  unfold Spec
  k_fill
  intro dp un gd cn cs a ccd cl outer A₀ base h₀ L m s Q E B F X N T hk hd hu hret
  refine wpAny_call ?_
  k_dflt (refine' code_def (binds := [(Str.ofString "machine", .ref dM), (Str.ofString "sign", .str (sgn o) t5), (Str.ofString "sort", .str (Str.ofString ".") t7), (Str.ofString "spot", .int sp t6)]) ?k1 ?k2 ?k3 ?k4 ?k5 ?kA ?kF ?kK ?k6 ?k7 ?k8 ?k9 ?kB ?_ ?c2 ?c3 ?c4 ?c5)
  (case kA => exact rfl)
  (case kF => exact rfl)
  (case kK => assumption)
  (case k1 => k_asm)
  (case k2 => k_asm)
  (case k3 => k_asm)
  (case k4 => k_asm)
  (case k5 => k_asm)
  (case k6 => k_is)
  (case k7 => k_is)
  (case k8 => ktr_room)
  (case k9 => k_dflt (exact BindsTo.of_eq rfl))
  (case c5 => decide)
  (case kB => exact locs rfl)
  (case c2 => exact rfl)
  (case c3 => exact rfl)
  (case c4 => exact rfl)
  intro g' L' h' FG' F' N' B' X' T'
  (try dsimp only)
  (try k_fold)

  k_steps
  all_goals (try dsimp only)
  · (rw [out_dot] at hret; (rename News _ _ _ _ => NN); (rename Obj.IsDictOf _ _ _ => HH); exact ret_of hret (by k_asm) (fin_same NN hne hoM hoF (by walk_at "own k_subset") ⟨_, _, _, _, HH⟩ hD))
end
end Mine
namespace Mine
section
local macro_rules | `(tactic| walk_at "own pad") => `(tactic| skip)
theorem fresh_OutD : True := by w_top off; trivial
set_option maxHeartbeats 1000000
local macro_rules | `(tactic| walk_at "subscriptTail") => `(tactic| (k_here; (with_reducible show wpAny _ _ (subscriptTail _ _ (Value.ref _) (Value.str _ _)) _ _ _); k_dflt (refine' mget ?N ?mm ?hd ?hv ?_; (case N => k_asm); (case mm => k_mem); (case hd => assumption); (case hv => rfl))))
local macro_rules | `(tactic| walk_at "setItem ref str") => `(tactic| (k_here; k_dflt (first
  | ((with_reducible show wpAny _ _ (setItem (Value.ref _) (Value.str (Str.ofString "mode") _) _) _ _ _); refine' mput_mode ?F ?N ?U ?hd ?_; (case F => k_asm); (case N => k_asm); (case U => k_updF); (case hd => assumption))
  | ((with_reducible show wpAny _ _ (setItem (Value.ref _) (Value.str (Str.ofString "held") _) _) _ _ _); refine' mput_held ?F ?N ?U ?hd ?_; (case F => k_asm); (case N => k_asm); (case U => k_updF); (case hd => assumption))
  | ((with_reducible show wpAny _ _ (setItem (Value.ref _) (Value.str (Str.ofString "begin") _) _) _ _ _); refine' mput_begin ?F ?N ?U ?hd ?_; (case F => k_asm); (case N => k_asm); (case U => k_updF); (case hd => assumption))
  | ((with_reducible show wpAny _ _ (setItem (Value.ref _) (Value.str (Str.ofString "fault") _) _) _ _ _); refine' mput_fault ?F ?N ?U ?hd ?_; (case F => k_asm); (case N => k_asm); (case U => k_updF); (case hd => assumption))); intro h' o' F' N' hd'; (try dsimp only at N'); (try dsimp only); (try k_sweep)))
local macro_rules | `(tactic| k_all) => `(tactic| assumption)
local macro_rules | `(tactic| walk_at "compareOp In str ref") => `(tactic| (k_here; (with_reducible show wpAny _ _ (compareOp CmpOp.In (Value.str _ _) (Value.ref _)) _ _ _); k_dflt (first
  | (refine in_tup4 true (by exact News.isTup (by k_asm) (by news_mem)) (by decide +kernel) ?_)
  | (refine in_tup4 false (by exact News.isTup (by k_asm) (by news_mem)) (by decide +kernel) ?_))))
local macro_rules | `(tactic| walk_at "ite") => `(tactic| (k_here; first | with_reducible refine ite_tt ?_ | with_reducible refine ite_ff ?_))
local macro_rules | `(tactic| walk_at "own lt_of") => `(tactic| (first | assumption | (rename _ ∧ _ => nn; with_reducible first | exact nn.1 | exact nn.2.1 | exact nn.2.2 | exact nn.2.2.1 | exact nn.2.2.2 | exact nn.2.2.2.1 | exact nn.2.2.2.2 | exact nn.2.2.2.2.1 | exact nn.2.2.2.2.2)))
theorem out_spec_minus (w : World) (mean : ExcName → Option Value) (mg mb : Str → Option Value) (dM lF : Nat) (oM : Obj) (o : Option Nat)  (mo he : Str) (be fa sp : Int) (vs : List Value) (n : Nat) (fo : List Dat) (t1 t2 t3 t4 t5 t6 t7 : Tok) (tl dl : Led)
   (hne : @Ne Nat dM lF) (hoM : ∀ p ∈ tl, p.1 ≠ dM) (hoF : ∀ p ∈ tl, p.1 ≠ lF) (hvs : vs.length ≤ 1000) (hD : DatAll dl vs fo)
   (hM : oM.IsDictOf (PySem.strKind PySem.Challenge.rw_nz0006_01.row.prog w) (MK (.str mo t1) lF (.str he t2) (.int be t3) (.int fa t4)))  :
   Spec w mean mg mb 190 [.ref dM, .str (sgn o) t5, .str (Str.ofString "-") t7, .int sp t6] ((dM, oM) :: (lF, listOf vs.toArray n) :: tl) 24 60 (MPost w dM lF (outside ⟨mo, he, fo, be, fa⟩ o (Str.ofString "-") sp) ((dM, oM) :: (lF, listOf vs.toArray n) :: tl) tl dl) := by
  unfold Spec
  k_fill
  intro dp un gd cn cs a ccd cl outer A₀ base h₀ L m s Q E B F X N T hk hd hu hret
  refine wpAny_call ?_
  k_dflt (refine' code_def (binds := [(Str.ofString "machine", .ref dM), (Str.ofString "sign", .str (sgn o) t5), (Str.ofString "sort", .str (Str.ofString "-") t7), (Str.ofString "spot", .int sp t6)]) ?k1 ?k2 ?k3 ?k4 ?k5 ?kA ?kF ?kK ?k6 ?k7 ?k8 ?k9 ?kB ?_ ?c2 ?c3 ?c4 ?c5)
  (case kA => exact rfl)
  (case kF => exact rfl)
  (case kK => assumption)
  (case k1 => k_asm)
  (case k2 => k_asm)
  (case k3 => k_asm)
  (case k4 => k_asm)
  (case k5 => k_asm)
  (case k6 => k_is)
  (case k7 => k_is)
  (case k8 => ktr_room)
  (case k9 => k_dflt (exact BindsTo.of_eq rfl))
  (case c5 => decide)
  (case kB => exact locs rfl)
  (case c2 => exact rfl)
  (case c3 => exact rfl)
  (case c4 => exact rfl)
  intro g' L' h' FG' F' N' B' X' T'
  (try dsimp only)
  (try k_fold)

  k_steps
  all_goals (try dsimp only)
  · (rw [out_minus] at hret; (rename News _ _ _ _ => NN); (rename Obj.IsDictOf _ _ _ => HH); exact ret_of hret (by k_asm) (fin_same NN hne hoM hoF (by walk_at "own k_subset") ⟨_, _, _, _, HH⟩ hD))
theorem out_spec_quote (w : World) (mean : ExcName → Option Value) (mg mb : Str → Option Value) (dM lF : Nat) (oM : Obj) (o : Option Nat)  (mo he : Str) (be fa sp : Int) (vs : List Value) (n : Nat) (fo : List Dat) (t1 t2 t3 t4 t5 t6 t7 : Tok) (tl dl : Led)
   (hne : @Ne Nat dM lF) (hoM : ∀ p ∈ tl, p.1 ≠ dM) (hoF : ∀ p ∈ tl, p.1 ≠ lF) (hvs : vs.length ≤ 1000) (hD : DatAll dl vs fo)
   (hM : oM.IsDictOf (PySem.strKind PySem.Challenge.rw_nz0006_01.row.prog w) (MK (.str mo t1) lF (.str he t2) (.int be t3) (.int fa t4)))  :
   Spec w mean mg mb 190 [.ref dM, .str (sgn o) t5, .str (Str.ofString "\"") t7, .int sp t6] ((dM, oM) :: (lF, listOf vs.toArray n) :: tl) 24 60 (MPost w dM lF (outside ⟨mo, he, fo, be, fa⟩ o (Str.ofString "\"") sp) ((dM, oM) :: (lF, listOf vs.toArray n) :: tl) tl dl) := by
  unfold Spec
  k_fill
  intro dp un gd cn cs a ccd cl outer A₀ base h₀ L m s Q E B F X N T hk hd hu hret
  refine wpAny_call ?_
  k_dflt (refine' code_def (binds := [(Str.ofString "machine", .ref dM), (Str.ofString "sign", .str (sgn o) t5), (Str.ofString "sort", .str (Str.ofString "\"") t7), (Str.ofString "spot", .int sp t6)]) ?k1 ?k2 ?k3 ?k4 ?k5 ?kA ?kF ?kK ?k6 ?k7 ?k8 ?k9 ?kB ?_ ?c2 ?c3 ?c4 ?c5)
  (case kA => exact rfl)
  (case kF => exact rfl)
  (case kK => assumption)
  (case k1 => k_asm)
  (case k2 => k_asm)
  (case k3 => k_asm)
  (case k4 => k_asm)
  (case k5 => k_asm)
  (case k6 => k_is)
  (case k7 => k_is)
  (case k8 => ktr_room)
  (case k9 => k_dflt (exact BindsTo.of_eq rfl))
  (case c5 => decide)
  (case kB => exact locs rfl)
  (case c2 => exact rfl)
  (case c3 => exact rfl)
  (case c4 => exact rfl)
  intro g' L' h' FG' F' N' B' X' T'
  (try dsimp only)
  (try k_fold)

  k_steps
  all_goals (try dsimp only)
  · (rw [out_quote] at hret; (rename News _ _ _ _ => NN); (rename Obj.IsDictOf _ _ _ => HH); exact ret_of hret (by k_asm) (fin_same NN hne hoM hoF (by walk_at "own k_subset") ⟨_, _, _, _, HH⟩ hD))
end
end Mine
namespace Mine
section
theorem fresh_OutE : True := by w_top off; trivial
set_option maxHeartbeats 1000000
local macro_rules | `(tactic| walk_at "subscriptTail") => `(tactic| (k_here; (with_reducible show wpAny _ _ (subscriptTail _ _ (Value.ref _) (Value.str _ _)) _ _ _); k_dflt (refine' mget ?N ?mm ?hd ?hv ?_; (case N => k_asm); (case mm => k_mem); (case hd => assumption); (case hv => rfl))))
local macro_rules | `(tactic| walk_at "setItem ref str") => `(tactic| (k_here; k_dflt (first
  | ((with_reducible show wpAny _ _ (setItem (Value.ref _) (Value.str (Str.ofString "mode") _) _) _ _ _); refine' mput_mode ?F ?N ?U ?hd ?_; (case F => k_asm); (case N => k_asm); (case U => k_updF); (case hd => assumption))
  | ((with_reducible show wpAny _ _ (setItem (Value.ref _) (Value.str (Str.ofString "held") _) _) _ _ _); refine' mput_held ?F ?N ?U ?hd ?_; (case F => k_asm); (case N => k_asm); (case U => k_updF); (case hd => assumption))
  | ((with_reducible show wpAny _ _ (setItem (Value.ref _) (Value.str (Str.ofString "begin") _) _) _ _ _); refine' mput_begin ?F ?N ?U ?hd ?_; (case F => k_asm); (case N => k_asm); (case U => k_updF); (case hd => assumption))
  | ((with_reducible show wpAny _ _ (setItem (Value.ref _) (Value.str (Str.ofString "fault") _) _) _ _ _); refine' mput_fault ?F ?N ?U ?hd ?_; (case F => k_asm); (case N => k_asm); (case U => k_updF); (case hd => assumption))); intro h' o' F' N' hd'; (try dsimp only at N'); (try dsimp only); (try k_sweep)))
local macro_rules | `(tactic| k_all) => `(tactic| assumption)
local macro_rules | `(tactic| walk_at "compareOp In str ref") => `(tactic| (k_here; (with_reducible show wpAny _ _ (compareOp CmpOp.In (Value.str _ _) (Value.ref _)) _ _ _); k_dflt (first
  | (refine in_tup4 true (by exact News.isTup (by k_asm) (by news_mem)) (by decide +kernel) ?_)
  | (refine in_tup4 false (by exact News.isTup (by k_asm) (by news_mem)) (by decide +kernel) ?_))))
local macro_rules | `(tactic| walk_at "ite") => `(tactic| (k_here; first | with_reducible refine ite_tt ?_ | with_reducible refine ite_ff ?_))
local macro_rules | `(tactic| walk_at "own lt_of") => `(tactic| (first | assumption | (rename _ ∧ _ => nn; with_reducible first | exact nn.1 | exact nn.2.1 | exact nn.2.2 | exact nn.2.2.1 | exact nn.2.2.2 | exact nn.2.2.2.1 | exact nn.2.2.2.2 | exact nn.2.2.2.2.1 | exact nn.2.2.2.2.2)))
theorem out_spec_else (w : World) (mean : ExcName → Option Value) (mg mb : Str → Option Value) (dM lF : Nat) (oM : Obj) (o : Option Nat) (so : Str) (mo he : Str) (be fa sp : Int) (vs : List Value) (n : Nat) (fo : List Dat) (t1 t2 t3 t4 t5 t6 t7 : Tok) (tl dl : Led)
   (hne : @Ne Nat dM lF) (hoM : ∀ p ∈ tl, p.1 ≠ dM) (hoF : ∀ p ∈ tl, p.1 ≠ lF) (hvs : vs.length ≤ 1000) (hD : DatAll dl vs fo)
   (hM : oM.IsDictOf (PySem.strKind PySem.Challenge.rw_nz0006_01.row.prog w) (MK (.str mo t1) lF (.str he t2) (.int be t3) (.int fa t4))) (h0 : (so == Str.ofString "letter") = false) (h1 : (so == Str.ofString "digit") = false) (h2 : (so == Str.ofString "mark") = false) (h3 : (so == Str.ofString "%") = false) (h4 : (so == Str.ofString ".") = false) (h5 : (so == Str.ofString "-") = false) (h6 : (so == Str.ofString "\"") = false) (h7 : (so == Str.ofString "blank") = false) (h8 : (so == Str.ofString "end") = false) :
   Spec w mean mg mb 190 [.ref dM, .str (sgn o) t5, .str so t7, .int sp t6] ((dM, oM) :: (lF, listOf vs.toArray n) :: tl) 24 60 (MPost w dM lF (outside ⟨mo, he, fo, be, fa⟩ o so sp) ((dM, oM) :: (lF, listOf vs.toArray n) :: tl) tl dl) := by
  have ha := any4_false h3 h4 h5 h6
  have hb := any2_false h7 h8
  unfold Spec
  k_fill
  intro dp un gd cn cs a ccd cl outer A₀ base h₀ L m s Q E B F X N T hk hd hu hret
  refine wpAny_call ?_
  k_dflt (refine' code_def (binds := [(Str.ofString "machine", .ref dM), (Str.ofString "sign", .str (sgn o) t5), (Str.ofString "sort", .str so t7), (Str.ofString "spot", .int sp t6)]) ?k1 ?k2 ?k3 ?k4 ?k5 ?kA ?kF ?kK ?k6 ?k7 ?k8 ?k9 ?kB ?_ ?c2 ?c3 ?c4 ?c5)
  (case kA => exact rfl)
  (case kF => exact rfl)
  (case kK => assumption)
  (case k1 => k_asm)
  (case k2 => k_asm)
  (case k3 => k_asm)
  (case k4 => k_asm)
  (case k5 => k_asm)
  (case k6 => k_is)
  (case k7 => k_is)
  (case k8 => ktr_room)
  (case k9 => k_dflt (exact BindsTo.of_eq rfl))
  (case c5 => decide)
  (case kB => exact locs rfl)
  (case c2 => exact rfl)
  (case c3 => exact rfl)
  (case c4 => exact rfl)
  intro g' L' h' FG' F' N' B' X' T'
  (try dsimp only)
  (try k_fold)

  k_steps
  all_goals (try dsimp only)
  · (rw [out_else h0 h1 h2 h3 h4 h5 h6 h7 h8] at hret; (rename News _ _ _ _ => NN); (rename Obj.IsDictOf _ _ _ => HH); exact ret_of hret (by k_asm) (fin_same NN hne hoM hoF (by walk_at "own k_subset") ⟨_, _, _, _, HH⟩ hD))
end
end Mine
namespace Mine
section
def isIn (mo : Str) : Bool := [Str.ofString "remark", Str.ofString "dot", Str.ofString "quote", Str.ofString "slash"].any fun x => x == mo
def isWN (mo : Str) : Bool := [Str.ofString "word", Str.ofString "number"].any fun x => x == mo
def after (m : MS) (o : Option Nat) (i : Nat) : MS :=
  if isWN m.mode = true then { m with held := m.held ++ sgn o }
  else if isIn m.mode = true then inside m o i
  else outside m o (srt o) i
def step (m : MS) (o : Option Nat) (i : Nat) : MS :=
  if 0 ≤ (leave m (srt o)).fault then leave m (srt o) else after (leave m (srt o)) o i
def run (l : List Nat) : Nat → MS
  | 0 => ⟨Str.ofString "", Str.ofString "", [], 0, -1⟩
  | i + 1 => if 0 ≤ (run l i).fault then run l i else step (run l i) l[i]? i
theorem run_stop {l : List Nat} {i : Nat} (h : 0 ≤ (run l i).fault) : ∀ k, run l (i + k) = run l i
  | 0 => rfl
  | k + 1 => by
    rw [← Nat.add_assoc, run, run_stop h k, if_pos h]
/-- what holds of the machine before its i-th sign -/
structure Okm (i : Nat) (m : MS) : Prop where
  held : m.held.length ≤ i
  found : m.found.length ≤ 2 * i
  num : m.mode = Str.ofString "number" ∨ m.mode = Str.ofString "minus" → ∀ c ∈ m.held.cps.toList, c = 45 ∨ isDig c = true
theorem srt_dig_inv {o : Option Nat} (h : srt o = Str.ofString "digit") : ∃ c, o = some c ∧ isDig c = true := by
  cases o with
  | none => exact absurd h (by decide +kernel)
  | some c =>
    refine ⟨c, rfl, ?_⟩
    cases hd : isDig c with
    | true => rfl
    | false =>
      exfalso
      unfold srt at h
      dsimp only at h
      rw [hd] at h
      simp only [Bool.false_eq_true, if_false] at h
      split at h
      · exact absurd h (by decide +kernel)
      · split at h
        · exact absurd h (by decide +kernel)
        · split at h
          · exact absurd h (by decide +kernel)
          · have := congrArg (fun s : Str => s.cps.size) h
            exact absurd this (show ¬ (1 = (Str.ofString "digit").cps.size) by decide +kernel)
theorem len_snoc (x : Str) (o : Option Nat) : (x ++ sgn o).length ≤ x.length + 1 := by
  have := sgn_len o
  rw [PySem.Str.length_append]; omega
theorem chars_app (x y : Str) : (x ++ y).cps.toList = x.cps.toList ++ y.cps.toList := by
  rw [PySem.Str.cps_append, Array.toList_append]
structure Lv (m L : MS) (so : Str) : Prop where
  held : L.held = m.held
  found : L.found.length ≤ m.found.length + 1
  beg : L.beg = m.beg
  nomin : L.mode ≠ Str.ofString "minus"
  num : L.mode = Str.ofString "number" → L.fault = m.beg ∨ so = Str.ofString "digit" ∧ (m.mode = Str.ofString "number" ∨ m.mode = Str.ofString "minus")
theorem leave_lv (m : MS) (so : Str) : Lv m (leave m so) so := by
  have ne1 : Str.ofString "word" ≠ Str.ofString "minus" := by decide +kernel
  have ne2 : Str.ofString "word" ≠ Str.ofString "number" := by decide +kernel
  have ne3 : Str.ofString "number" ≠ Str.ofString "minus" := by decide +kernel
  have ne4 : Str.ofString "" ≠ Str.ofString "minus" := by decide +kernel
  have ne5 : Str.ofString "" ≠ Str.ofString "number" := by decide +kernel
  unfold leave
  split
  · rename_i h
    have e := eq_of_beq h
    split
    · exact ⟨rfl, by omega, rfl, by rw [e]; exact ne1, fun q => absurd (e ▸ q) ne2⟩
    · split
      · exact ⟨rfl, by omega, rfl, by rw [e]; exact ne1, fun q => absurd (e ▸ q) ne2⟩
      · exact ⟨rfl, by simp, rfl, ne4, fun q => absurd q ne5⟩
  · split
    · rename_i h
      have e := eq_of_beq h
      split
      · rename_i hd
        exact ⟨rfl, by omega, rfl, by rw [e]; exact ne3, fun q => .inr ⟨eq_of_beq hd, .inl e⟩⟩
      · exact ⟨rfl, by simp, rfl, ne4, fun q => absurd q ne5⟩
    · split
      · rename_i h
        have e := eq_of_beq h
        split
        · rename_i hd
          exact ⟨rfl, by simp, rfl, ne3, fun q => .inr ⟨eq_of_beq hd, .inr e⟩⟩
        · exact ⟨rfl, by simp, rfl, ne3, fun q => .inl rfl⟩
      · rename_i h1 h2 h3
        exact ⟨rfl, by omega, rfl, fun q => h3 (by rw [q]; exact beq_self_eq_true _), fun q => absurd (by rw [q]; exact beq_self_eq_true _) h2⟩
structure Af (L M : MS) (o : Option Nat) : Prop where
  held : M.held.length ≤ L.held.length + 1
  found : M.found.length ≤ L.found.length + 1
  num : M.mode = Str.ofString "number" ∨ M.mode = Str.ofString "minus" → M.held = sgn o ∧ srt o = Str.ofString "digit" ∨ M.held = Str.ofString "-"
theorem outside_af (L : MS) (o : Option Nat) (i : Int) (h1 : L.mode ≠ Str.ofString "number") (h2 : L.mode ≠ Str.ofString "minus") : Af L (outside L o (srt o) i) o := by
  have n1 : Str.ofString "word" ≠ Str.ofString "minus" := by decide +kernel
  have n2 : Str.ofString "word" ≠ Str.ofString "number" := by decide +kernel
  have n3 : Str.ofString "remark" ≠ Str.ofString "minus" := by decide +kernel
  have n4 : Str.ofString "remark" ≠ Str.ofString "number" := by decide +kernel
  have n5 : Str.ofString "dot" ≠ Str.ofString "minus" := by decide +kernel
  have n6 : Str.ofString "dot" ≠ Str.ofString "number" := by decide +kernel
  have n7 : Str.ofString "quote" ≠ Str.ofString "minus" := by decide +kernel
  have n8 : Str.ofString "quote" ≠ Str.ofString "number" := by decide +kernel
  have hs := sgn_len o
  have z1 : (Str.ofString "").length = 0 := by decide +kernel
  have z2 : (Str.ofString "-").length = 1 := by decide +kernel
  unfold outside
  split
  · exact ⟨by dsimp only; omega, by dsimp only; omega, fun q => q.elim (fun q => absurd q n2) fun q => absurd q n1⟩
  split
  · rename_i hd
    exact ⟨by dsimp only; omega, by dsimp only; omega, fun q => .inl ⟨rfl, eq_of_beq hd⟩⟩
  split
  · exact ⟨by dsimp only; omega, by simp, fun q => q.elim (fun q => absurd q h1) fun q => absurd q h2⟩
  split
  · exact ⟨by dsimp only; omega, by dsimp only; omega, fun q => q.elim (fun q => absurd q n4) fun q => absurd q n3⟩
  split
  · exact ⟨by dsimp only; omega, by dsimp only; omega, fun q => q.elim (fun q => absurd q n6) fun q => absurd q n5⟩
  split
  · exact ⟨by dsimp only; omega, by dsimp only; omega, fun q => .inr rfl⟩
  split
  · exact ⟨by dsimp only; omega, by dsimp only; omega, fun q => q.elim (fun q => absurd q n8) fun q => absurd q n7⟩
  split
  · exact ⟨by dsimp only; omega, by dsimp only; omega, fun q => q.elim (fun q => absurd q h1) fun q => absurd q h2⟩
  split
  · exact ⟨by dsimp only; omega, by dsimp only; omega, fun q => q.elim (fun q => absurd q h1) fun q => absurd q h2⟩
  · exact ⟨by dsimp only; omega, by dsimp only; omega, fun q => q.elim (fun q => absurd q h1) fun q => absurd q h2⟩
theorem inside_af (L : MS) (o : Option Nat) (i : Int) (h1 : L.mode ≠ Str.ofString "number") (h2 : L.mode ≠ Str.ofString "minus") : Af L (inside L o i) o := by
  have n1 : Str.ofString "" ≠ Str.ofString "minus" := by decide +kernel
  have n2 : Str.ofString "" ≠ Str.ofString "number" := by decide +kernel
  have n3 : Str.ofString "slash" ≠ Str.ofString "minus" := by decide +kernel
  have n4 : Str.ofString "slash" ≠ Str.ofString "number" := by decide +kernel
  have n7 : Str.ofString "quote" ≠ Str.ofString "minus" := by decide +kernel
  have n8 : Str.ofString "quote" ≠ Str.ofString "number" := by decide +kernel
  have hs := sgn_len o
  have hl := len_snoc L.held o
  have hl' := len_snoc L.held (some 10)
  unfold inside
  split
  · split
    · exact ⟨by dsimp only; omega, by dsimp only; omega, fun q => q.elim (fun q => absurd q n2) fun q => absurd q n1⟩
    · exact ⟨by omega, by omega, fun q => q.elim (fun q => absurd q h1) fun q => absurd q h2⟩
  split
  · split
    · exact ⟨by dsimp only; omega, by simp, fun q => q.elim (fun q => absurd q n2) fun q => absurd q n1⟩
    · exact ⟨by dsimp only; omega, by dsimp only; omega, fun q => q.elim (fun q => absurd q n2) fun q => absurd q n1⟩
  split
  · refine ⟨?_, by dsimp only; omega, fun q => q.elim (fun q => absurd q n8) fun q => absurd q n7⟩
    dsimp only
    split
    · exact hl'
    · exact hl
  split
  · exact ⟨by dsimp only; omega, by simp, fun q => q.elim (fun q => absurd q n2) fun q => absurd q n1⟩
  split
  · exact ⟨by dsimp only; omega, by dsimp only; omega, fun q => q.elim (fun q => absurd q n4) fun q => absurd q n3⟩
  split
  · exact ⟨by dsimp only; omega, by dsimp only; omega, fun q => q.elim (fun q => absurd q h1) fun q => absurd q h2⟩
  · exact ⟨hl, by dsimp only; omega, fun q => q.elim (fun q => absurd q h1) fun q => absurd q h2⟩
theorem isWN_no {mo : Str} (h : isWN mo = false) : mo ≠ Str.ofString "number" := by rintro rfl; exact absurd h (by decide +kernel)
theorem isIn_no {mo : Str} (h : isIn mo = true) : mo ≠ Str.ofString "number" ∧ mo ≠ Str.ofString "minus" := by
  constructor
  · rintro rfl; exact absurd h (by decide +kernel)
  · rintro rfl; exact absurd h (by decide +kernel)
theorem dash_ok : ∀ c ∈ (Str.ofString "-").cps.toList, c = 45 ∨ isDig c = true := by decide +kernel
theorem after_ok {i : Nat} {m : MS} {o : Option Nat} (h : Okm i m) (hb : ¬ 0 ≤ (leave m (srt o)).fault) (hg : 0 ≤ m.beg) : Okm (i + 1) (after (leave m (srt o)) o i) := by
  have v := leave_lv m (srt o)
  generalize leave m (srt o) = L at v hb
  have h1 := h.held
  have h2 := h.found
  have v1 := v.found
  have v0 : L.held.length ≤ i := by rw [v.held]; exact h1
  unfold after
  split
  · rename_i hw
    have := len_snoc L.held o
    refine ⟨by dsimp only; omega, by dsimp only; omega, fun q => ?_⟩
    rcases q with q | q
    · rcases v.num q with e | ⟨e, e'⟩
      · omega
      · obtain ⟨c, rfl, hc⟩ := srt_dig_inv e
        intro d hd
        rw [chars_app, List.mem_append] at hd
        rcases hd with hd | hd
        · rw [v.held] at hd
          exact h.num e' d hd
        · rw [List.mem_singleton.mp hd]; exact .inr hc
    · exact absurd q v.nomin
  rename_i hw
  have f : Af L (if isIn L.mode = true then inside L o ↑i else outside L o (srt o) ↑i) o := by
    split
    · rename_i hi
      exact inside_af L o i (isIn_no hi).1 (isIn_no hi).2
    · exact outside_af L o i (isWN_no (by simpa using hw)) v.nomin
  have f1 := f.held
  have f2 := f.found
  refine ⟨by omega, by omega, fun q => ?_⟩
  rcases f.num q with ⟨e, e'⟩ | e
  · obtain ⟨c, rfl, hc⟩ := srt_dig_inv e'
    intro d hd
    rw [e] at hd
    rw [List.mem_singleton.mp hd]; exact .inr hc
  · rw [e]; exact dash_ok
theorem leave_beg (m : MS) (so : Str) : (leave m so).beg = m.beg := (leave_lv m so).beg
theorem inside_beg (L : MS) (o : Option Nat) (i : Int) : (inside L o i).beg = L.beg := by
  unfold inside
  split
  · split <;> rfl
  split
  · split <;> rfl
  split
  · rfl
  split
  · rfl
  split
  · rfl
  split <;> rfl
theorem outside_beg (L : MS) (o : Option Nat) (so : Str) (i : Int) : (outside L o so i).beg = i := by
  unfold outside
  split
  · rfl
  split
  · rfl
  split
  · rfl
  split
  · rfl
  split
  · rfl
  split
  · rfl
  split
  · rfl
  split
  · rfl
  split <;> rfl
theorem after_beg {L : MS} {o : Option Nat} {i : Nat} (h : 0 ≤ L.beg) : 0 ≤ (after L o i).beg := by
  unfold after
  split
  · exact h
  split
  · rw [inside_beg]; exact h
  · rw [outside_beg]; omega
theorem step_ok {i : Nat} {m : MS} {o : Option Nat} (h : Okm i m) (hg : 0 ≤ m.beg) (hf : ¬ 0 ≤ (step m o i).fault) : Okm (i + 1) (step m o i) ∧ 0 ≤ (step m o i).beg := by
  unfold step at hf ⊢
  split at hf
  · rename_i q; exact absurd q hf
  · rename_i q
    rw [if_neg q]
    exact ⟨after_ok h q hg, after_beg (by rw [leave_beg]; exact hg)⟩
section
variable {l : List Nat} {i : Nat} (hf : ¬ 0 ≤ (run l i).fault)
include hf
theorem run_succ : run l (i + 1) = step (run l i) l[i]? i := by rw [run, if_neg hf]
theorem run_ok (ok : Okm i (run l i)) (hb : 0 ≤ (run l i).beg) (h : ¬ 0 ≤ (run l (i + 1)).fault) : Okm (i + 1) (run l (i + 1)) ∧ 0 ≤ (run l (i + 1)).beg := by
  rw [run_succ hf] at h ⊢
  exact step_ok ok hb h
theorem run_leave (h : 0 ≤ (leave (run l i) (srt l[i]?)).fault) : leave (run l i) (srt l[i]?) = run l (i + 1) := by
  rw [run_succ hf, step, if_pos h]
variable (hn : ¬ 0 ≤ (leave (run l i) (srt l[i]?)).fault)
include hn
theorem run_held (hw : isWN (leave (run l i) (srt l[i]?)).mode = true) : (⟨(leave (run l i) (srt l[i]?)).mode, (leave (run l i) (srt l[i]?)).held ++ sgn l[i]?, (leave (run l i) (srt l[i]?)).found, (leave (run l i) (srt l[i]?)).beg, (leave (run l i) (srt l[i]?)).fault⟩ : MS) = run l (i + 1) := by
  rw [run_succ hf, step, if_neg hn, after, if_pos hw]
theorem run_inside (hw : isWN (leave (run l i) (srt l[i]?)).mode = false) (hi : isIn (leave (run l i) (srt l[i]?)).mode = true) : inside (leave (run l i) (srt l[i]?)) l[i]? i = run l (i + 1) := by
  rw [run_succ hf, step, if_neg hn, after, if_neg (by rw [hw]; exact Bool.false_ne_true), if_pos hi]
theorem run_outside (hw : isWN (leave (run l i) (srt l[i]?)).mode = false) (hi : isIn (leave (run l i) (srt l[i]?)).mode = false) : outside (leave (run l i) (srt l[i]?)) l[i]? (srt l[i]?) i = run l (i + 1) := by
  rw [run_succ hf, step, if_neg hn, after, if_neg (by rw [hw]; exact Bool.false_ne_true), if_neg (by rw [hi]; exact Bool.false_ne_true)]
end
theorem ok0 : Okm 0 ⟨Str.ofString "", Str.ofString "", [], 0, -1⟩ := ⟨by decide +kernel, Nat.le_refl _, fun q => by
  rcases q with q | q
  · exact absurd q (show Str.ofString "" ≠ Str.ofString "number" by decide +kernel)
  · exact absurd q (show Str.ofString "" ≠ Str.ofString "minus" by decide +kernel)⟩
theorem inside_found (L : MS) (o : Option Nat) (i : Int) : (inside L o i).found.length ≤ L.found.length + 1 := by
  unfold inside
  split
  · split <;> simp
  split
  · split <;> simp
  split
  · simp
  split
  · simp
  split
  · simp
  split <;> simp
theorem outside_found (L : MS) (o : Option Nat) (so : Str) (i : Int) : (outside L o so i).found.length ≤ L.found.length + 1 := by
  unfold outside
  split
  · simp
  split
  · simp
  split
  · simp
  split
  · simp
  split
  · simp
  split
  · simp
  split
  · simp
  split
  · simp
  split <;> simp
theorem run_found (l : List Nat) : ∀ i, (run l i).found.length ≤ 2 * i
  | 0 => by simp [run]
  | i + 1 => by
    have ih := run_found l i
    rw [run]
    split
    · omega
    · have h1 := (leave_lv (run l i) (srt l[i]?)).found
      unfold step
      split
      · omega
      · unfold after
        split
        · dsimp only; omega
        split
        · have := inside_found (leave (run l i) (srt l[i]?)) l[i]? i; omega
        · have := outside_found (leave (run l i) (srt l[i]?)) l[i]? (srt l[i]?) i; omega
theorem found_len {x : Str} {tl : List (Addr × Obj)} {vs : List Value} (D : DatAll tl vs (run x.cps.toList (x.length + 1)).found) (hx : x.length ≤ 400) : vs.length ≤ 1000 := by
  have := run_found x.cps.toList (x.length + 1)
  rw [D.length]; omega
end
end Mine
namespace Mine
section
set_option maxHeartbeats 1000000
theorem leave_spec (w : World) (mean : ExcName → Option Value) (mg mb : Str → Option Value) (m : MS) (so : Str) (dM lF : Nat) (t5 : Tok) (pre tl dl : Led) (R : MRep w dM lF m pre tl dl) (i : Nat) (ok : Okm i m) (hi : i ≤ 401) :
    Spec w mean mg mb 176 [.ref dM, .str so t5] pre 24 60 (MPost w dM lF (leave m so) pre tl dl) := by
  obtain ⟨mode, he, fo, be, fa⟩ := m
  obtain ⟨ne, oM, oF, obj, vs, k, rfl, ⟨t1, t2, t3, t4, hM⟩, hD⟩ := R
  have hl := hD.length
  have hf := ok.found
  have hh := ok.held
  dsimp only at hl hf hh hM hD
  cases h1 : mode == Str.ofString "word" with
  | true =>
    have e := eq_of_beq h1
    subst e
    exact leave_word w mean mg mb dM lF obj so he be fa vs k fo t1 t2 t3 t4 t5 tl dl ne oM oF (by omega) hD hM
  | false =>
  cases h2 : mode == Str.ofString "number" with
  | true =>
    have e := eq_of_beq h2
    subst e
    exact leave_number w mean mg mb dM lF obj so he be fa vs k fo t1 t2 t3 t4 t5 tl dl ne oM oF (by omega) hD hM (by omega) (ok.num (.inl rfl))
  | false =>
  cases h3 : mode == Str.ofString "minus" with
  | true =>
    have e := eq_of_beq h3
    subst e
    exact leave_minus w mean mg mb dM lF obj so he be fa vs k fo t1 t2 t3 t4 t5 tl dl ne oM oF (by omega) hD hM
  | false => exact leave_else w mean mg mb dM lF obj mode so he be fa vs k fo t1 t2 t3 t4 t5 tl dl ne oM oF (by omega) hD hM h1 h2 h3
theorem inside_spec (w : World) (mean : ExcName → Option Value) (mg mb : Str → Option Value) (m : MS) (o : Option Nat) (sp : Int) (dM lF : Nat) (t5 t6 : Tok) (pre tl dl : Led) (R : MRep w dM lF m pre tl dl) (hf : m.found.length ≤ 1000) (hh : m.held.length ≤ 1000) (hin : isIn m.mode = true) :
    Spec w mean mg mb 183 [.ref dM, .str (sgn o) t5, .int sp t6] pre 24 60 (MPost w dM lF (inside m o sp) pre tl dl) := by
  obtain ⟨mode, he, fo, be, fa⟩ := m
  obtain ⟨ne, oM, oF, obj, vs, k, rfl, ⟨t1, t2, t3, t4, hM⟩, hD⟩ := R
  have hl := hD.length
  dsimp only at hl hf hh hM hD
  simp only [isIn, List.any_cons, List.any_nil, Bool.or_false, Bool.or_eq_true, beq_iff_eq] at hin
  rcases hin with rfl | rfl | rfl | rfl
  · exact in_remark w mean mg mb dM lF obj o he be fa sp vs k fo t1 t2 t3 t4 t5 t6 tl dl ne oM oF (by omega) hD hM
  · exact in_dot w mean mg mb dM lF obj o he be fa sp vs k fo t1 t2 t3 t4 t5 t6 tl dl ne oM oF (by omega) hD hM
  · exact in_quote w mean mg mb dM lF obj o he be fa sp vs k fo t1 t2 t3 t4 t5 t6 tl dl ne oM oF (by omega) hD hM hh
  · by_cases e : o = some 110
    · subst e
      exact in_slash1 w mean mg mb dM lF obj he be fa sp vs k fo t1 t2 t3 t4 t5 t6 tl dl ne oM oF (by omega) hD hM hh
    · have hn : (sgn o == Str.ofString "n") = false := by
        rw [show Str.ofString "n" = ⟨#[110]⟩ from rfl, sgn_eq]
        exact decide_eq_false e
      exact in_slash2 w mean mg mb dM lF obj o he be fa sp vs k fo t1 t2 t3 t4 t5 t6 tl dl ne oM oF (by omega) hD hM hh hn
theorem outside_spec (w : World) (mean : ExcName → Option Value) (mg mb : Str → Option Value) (m : MS) (o : Option Nat) (so : Str) (sp : Int) (dM lF : Nat) (t5 t6 t7 : Tok) (pre tl dl : Led) (R : MRep w dM lF m pre tl dl) (hf : m.found.length ≤ 1000) :
    Spec w mean mg mb 190 [.ref dM, .str (sgn o) t5, .str so t7, .int sp t6] pre 24 60 (MPost w dM lF (outside m o so sp) pre tl dl) := by
  obtain ⟨mode, he, fo, be, fa⟩ := m
  obtain ⟨ne, oM, oF, obj, vs, k, rfl, ⟨t1, t2, t3, t4, hM⟩, hD⟩ := R
  have hl := hD.length
  dsimp only at hl hf hM hD
  cases h0 : so == Str.ofString "letter" with
  | true =>
    have e := eq_of_beq h0
    subst e
    exact out_spec_letter w mean mg mb dM lF obj o mode he be fa sp vs k fo t1 t2 t3 t4 t5 t6 t7 tl dl ne oM oF (by omega) hD hM
  | false =>
  cases h1 : so == Str.ofString "digit" with
  | true =>
    have e := eq_of_beq h1
    subst e
    exact out_spec_digit w mean mg mb dM lF obj o mode he be fa sp vs k fo t1 t2 t3 t4 t5 t6 t7 tl dl ne oM oF (by omega) hD hM
  | false =>
  cases h2 : so == Str.ofString "mark" with
  | true =>
    have e := eq_of_beq h2
    subst e
    exact out_spec_mark w mean mg mb dM lF obj o mode he be fa sp vs k fo t1 t2 t3 t4 t5 t6 t7 tl dl ne oM oF (by omega) hD hM
  | false =>
  cases h3 : so == Str.ofString "%" with
  | true =>
    have e := eq_of_beq h3
    subst e
    exact out_spec_pct w mean mg mb dM lF obj o mode he be fa sp vs k fo t1 t2 t3 t4 t5 t6 t7 tl dl ne oM oF (by omega) hD hM
  | false =>
  cases h4 : so == Str.ofString "." with
  | true =>
    have e := eq_of_beq h4
    subst e
    exact out_spec_dot w mean mg mb dM lF obj o mode he be fa sp vs k fo t1 t2 t3 t4 t5 t6 t7 tl dl ne oM oF (by omega) hD hM
  | false =>
  cases h5 : so == Str.ofString "-" with
  | true =>
    have e := eq_of_beq h5
    subst e
    exact out_spec_minus w mean mg mb dM lF obj o mode he be fa sp vs k fo t1 t2 t3 t4 t5 t6 t7 tl dl ne oM oF (by omega) hD hM
  | false =>
  cases h6 : so == Str.ofString "\"" with
  | true =>
    have e := eq_of_beq h6
    subst e
    exact out_spec_quote w mean mg mb dM lF obj o mode he be fa sp vs k fo t1 t2 t3 t4 t5 t6 t7 tl dl ne oM oF (by omega) hD hM
  | false =>
  cases h7 : so == Str.ofString "blank" with
  | true =>
    have e := eq_of_beq h7
    subst e
    exact out_spec_blank w mean mg mb dM lF obj o mode he be fa sp vs k fo t1 t2 t3 t4 t5 t6 t7 tl dl ne oM oF (by omega) hD hM
  | false =>
  cases h8 : so == Str.ofString "end" with
  | true =>
    have e := eq_of_beq h8
    subst e
    exact out_spec_end w mean mg mb dM lF obj o mode he be fa sp vs k fo t1 t2 t3 t4 t5 t6 t7 tl dl ne oM oF (by omega) hD hM
  | false =>
  exact out_spec_else w mean mg mb dM lF obj o so mode he be fa sp vs k fo t1 t2 t3 t4 t5 t6 t7 tl dl ne oM oF (by omega) hD hM h0 h1 h2 h3 h4 h5 h6 h7 h8
end
end Mine
namespace Mine
section
theorem fresh_MachS : True := by w_top off; trivial
set_option maxHeartbeats 1000000
local macro_rules | `(tactic| walk_at "subscriptTail") => `(tactic| (k_here; (with_reducible show wpAny _ _ (subscriptTail _ _ (Value.ref _) (Value.str _ _)) _ _ _); k_dflt (refine' mget ?N ?mm ?hd ?hv ?_; (case N => k_asm); (case mm => k_mem); (case hd => assumption); (case hv => rfl))))
local macro_rules | `(tactic| walk_at "setItem ref str") => `(tactic| (k_here; k_dflt (first
  | ((with_reducible show wpAny _ _ (setItem (Value.ref _) (Value.str (Str.ofString "mode") _) _) _ _ _); refine' mput_mode ?F ?N ?U ?hd ?_; (case F => k_asm); (case N => k_asm); (case U => k_updF); (case hd => assumption))
  | ((with_reducible show wpAny _ _ (setItem (Value.ref _) (Value.str (Str.ofString "held") _) _) _ _ _); refine' mput_held ?F ?N ?U ?hd ?_; (case F => k_asm); (case N => k_asm); (case U => k_updF); (case hd => assumption))
  | ((with_reducible show wpAny _ _ (setItem (Value.ref _) (Value.str (Str.ofString "begin") _) _) _ _ _); refine' mput_begin ?F ?N ?U ?hd ?_; (case F => k_asm); (case N => k_asm); (case U => k_updF); (case hd => assumption))
  | ((with_reducible show wpAny _ _ (setItem (Value.ref _) (Value.str (Str.ofString "fault") _) _) _ _ _); refine' mput_fault ?F ?N ?U ?hd ?_; (case F => k_asm); (case N => k_asm); (case U => k_updF); (case hd => assumption))); intro h' o' F' N' hd'; (try dsimp only at N'); (try dsimp only); (try k_sweep)))
local macro_rules | `(tactic| k_all) => `(tactic| assumption)
local macro_rules | `(tactic| walk_at "own lt_of") => `(tactic| (first | assumption | (rename _ ∧ _ => nn; with_reducible first | exact nn.1 | exact nn.2.1 | exact nn.2.2 | exact nn.2.2.1 | exact nn.2.2.2 | exact nn.2.2.2.1 | exact nn.2.2.2.2 | exact nn.2.2.2.2.1 | exact nn.2.2.2.2.2)))
theorem sort_slice (w : World) (mean : ExcName → Option Value) (mg mb : Str → Option Value) (x : Str) (i : Nat) (hi : i < x.length + 1) (t : Tok) (pre : Led) :
    Spec w mean mg mb 162 [.str (Txt.slice x (some (i : Int)) (some ((i : Int) + 1))) t] pre 8 8 (fun v news' => news' = pre ∧ ∃ t', v = .str (srt x.cps.toList[i]?) t') := by
  rw [slice_sgn x (Nat.le_of_lt_succ hi)]
  exact sort_spec w mean mg mb _ t pre
theorem inside_slice (w : World) (mean : ExcName → Option Value) (mg mb : Str → Option Value) (m : MS) (x : Str) (i : Nat) (hi : i < x.length + 1) (dM lF : Nat) (t5 t6 : Tok) (pre tl dl : Led) (R : MRep w dM lF m pre tl dl) (hf : m.found.length ≤ 1000) (hh : m.held.length ≤ 1000) (hin : isIn m.mode = true) :
    Spec w mean mg mb 183 [.ref dM, .str (Txt.slice x (some (i : Int)) (some ((i : Int) + 1))) t5, .int (i : Int) t6] pre 24 60 (MPost w dM lF (inside m x.cps.toList[i]? i) pre tl dl) := by
  rw [slice_sgn x (Nat.le_of_lt_succ hi)]
  exact inside_spec w mean mg mb m _ _ dM lF t5 t6 pre tl dl R hf hh hin
theorem outside_slice (w : World) (mean : ExcName → Option Value) (mg mb : Str → Option Value) (m : MS) (x : Str) (i : Nat) (hi : i < x.length + 1) (so : Str) (dM lF : Nat) (t5 t6 t7 : Tok) (pre tl dl : Led) (R : MRep w dM lF m pre tl dl) (hf : m.found.length ≤ 1000) :
    Spec w mean mg mb 190 [.ref dM, .str (Txt.slice x (some (i : Int)) (some ((i : Int) + 1))) t5, .str so t7, .int (i : Int) t6] pre 24 60 (MPost w dM lF (outside m x.cps.toList[i]? so i) pre tl dl) := by
  rw [slice_sgn x (Nat.le_of_lt_succ hi)]
  exact outside_spec w mean mg mb m _ so _ dM lF t5 t6 t7 pre tl dl R hf
theorem run0_f {l : List Nat} : ¬ 0 ≤ (run l 0).fault := show ¬ (0 : Int) ≤ -1 by decide
def MJ (w : World) (dM lF : Addr) (x : Str) (tx : Tok) (i : Nat) (m : Str → Option Value) (nx : Led) : Prop := ∃ tl dl, MRep w dM lF (run x.cps.toList i) nx tl dl ∧ (∀ p ∈ dl, p ∈ tl) ∧ Okm i (run x.cps.toList i) ∧ 0 ≤ (run x.cps.toList i).beg ∧ ¬ 0 ≤ (run x.cps.toList i).fault ∧ Pins m [(Str.ofString "text", .str x tx), (Str.ofString "machine", .ref dM)]
def ME (w : World) (dM lF : Addr) (x : Str) (tx : Tok) (m : Str → Option Value) (nx : Led) : Prop := ∃ tl dl, MRep w dM lF (run x.cps.toList (x.length + 1)) nx tl dl ∧ (∀ p ∈ dl, p ∈ tl) ∧ Pins m [(Str.ofString "text", .str x tx), (Str.ofString "machine", .ref dM)]
def MachPost (x : Str) (v : Value) (n' : Led) : Prop := ∃ T lF vs k tf tl, v = .ref T ∧ n' = (T, tupOf #[.ref lF, .int (run x.cps.toList (x.length + 1)).fault tf] 0) :: (lF, listOf (List.toArray vs) k) :: tl ∧ DatAll tl vs (run x.cps.toList (x.length + 1)).found
theorem rep_mk {w : World} {dM lF : Addr} {m : MS} {tl dl : Led} {h₀ h : Heap} {L : Addr} {ob : Obj} {vs : List Value} {k : Nat} (_ : News h₀ L h ((dM, ob) :: (lF, listOf vs.toArray k) :: tl)) (ne : @Ne Nat dM lF) (om : ∀ p ∈ tl, p.1 ≠ dM) (of : ∀ p ∈ tl, p.1 ≠ lF) (hO : MObj w lF m ob) (hA : DatAll dl vs m.found) : MRep w dM lF m ((dM, ob) :: (lF, listOf vs.toArray k) :: tl) tl dl := ⟨ne, om, of, ob, vs, k, rfl, hO, hA⟩
structure MNew (w : World) (dM lF : Addr) (x : Str) (i : Nat) (m' : MS) (n' tl dl own : Led) : Prop where
  is : ∃ a2 a1, MRep w dM lF m' n' (a2 ++ (a1 ++ (tl ++ own))) (a2 ++ (a1 ++ dl)) ∧ (∀ q ∈ a1, ∀ p ∈ own, @LT.lt Nat _ p.1 q.1) ∧ (∀ q ∈ a2, ∀ p ∈ own, @LT.lt Nat _ p.1 q.1)
theorem mach_brk {w : World} {dM lF : Addr} {x : Str} {tx : Tok} {i : Nat} {m' : MS} {n' tl dl own : Led} {h₀ h : Heap} {L : Addr} {s : Shared} {tk : Nat} {m : Str → Option Value} (R : MNew w dM lF x i m' n' tl dl own) (hsub : ∀ p ∈ dl, p ∈ tl) (F : Fr h₀ L h m) (N : News h₀ L h n') (hi : i < x.length + 1) (hm : m' = run x.cps.toList (i + 1)) (hf : 0 ≤ m'.fault) (hp : Pins m [(Str.ofString "text", .str x tx), (Str.ofString "machine", .ref dM)]) :
    Out h₀ L s (ME w dM lF x tx) { s with heap := h, toks := tk } := by
  obtain ⟨a2, a1, R, -, -⟩ := R.is
  have e : m' = run x.cps.toList (x.length + 1) := by
    have := run_stop (l := x.cps.toList) (i := i + 1) (hm ▸ hf) (x.length - i)
    rw [show i + 1 + (x.length - i) = x.length + 1 by omega] at this
    rw [this, hm]
  subst hm
  refine ⟨_, _, _, _, rfl, F, N, _, _, e ▸ R, fun p hp => ?_, hp⟩
  rcases List.mem_append.mp hp with hp | hp
  · exact List.mem_append_left _ hp
  refine List.mem_append_right _ ?_
  rcases List.mem_append.mp hp with hp | hp
  · exact List.mem_append_left _ hp
  exact List.mem_append_right _ (List.mem_append_left _ (hsub p hp))
theorem mach_next {w : World} {dM lF : Addr} {x : Str} {tx : Tok} {i : Nat} {m' : MS} {n' tl dl own : Led} {h₀ h : Heap} {L : Addr} {s : Shared} {tk : Nat} {m : Str → Option Value} (R : MNew w dM lF x i m' n' tl dl own) (hsub : ∀ p ∈ dl, p ∈ tl) (hoff : OwnOff own (tl.map (·.1))) (F : Fr h₀ L h m) (N : News h₀ L h n') (hm : m' = run x.cps.toList (i + 1)) (hf : ¬ 0 ≤ m'.fault) (ok0 : Okm i (run x.cps.toList i)) (hb0 : 0 ≤ (run x.cps.toList i).beg) (hf0 : ¬ 0 ≤ (run x.cps.toList i).fault) (hp : Pins m [(Str.ofString "text", .str x tx), (Str.ofString "machine", .ref dM)]) :
    EndI h₀ L (MJ w dM lF x tx (i + 1)) own s { s with heap := h, toks := tk } := by
  obtain ⟨a2, a1, R, l1, l2⟩ := R.is
  obtain ⟨ne, oM, oF, ob, vs, k, rfl, hO, hA⟩ := R
  subst hm
  obtain ⟨ok, hb⟩ := run_ok hf0 ok0 hb0 hf
  refine ⟨_, _, _, _, (dM, ob) :: (lF, listOf vs.toArray k) :: (a2 ++ (a1 ++ tl)), rfl, F, N, ?_, ?_, ?_, _, _, ⟨ne, ?_, ?_, ob, vs, k, rfl, hO, hA⟩, ?_, ok, hb, hf, hp⟩
  · refine sub_cons (.head _) (sub_cons (.tail _ (.head _)) fun p hp => .tail _ (.tail _ ?_))
    rcases List.mem_append.mp hp with hp | hp
    · exact List.mem_append_left _ hp
    refine List.mem_append_right _ ?_
    rcases List.mem_append.mp hp with hp | hp
    · exact List.mem_append_left _ hp
    exact List.mem_append_right _ (List.mem_append_left _ hp)
  · exact fun p hp => .tail _ (.tail _ (List.mem_append_right _ (List.mem_append_right _ (List.mem_append_right _ hp))))
  · intro p hp b hb e
    obtain ⟨q, hq, rfl⟩ := List.mem_map.mp hb
    have hpt : p ∈ a2 ++ (a1 ++ (tl ++ own)) := List.mem_append_right _ (List.mem_append_right _ (List.mem_append_right _ hp))
    rcases List.mem_cons.mp hq with rfl | hq
    · exact oM p hpt e
    rcases List.mem_cons.mp hq with rfl | hq
    · exact oF p hpt e
    rcases List.mem_append.mp hq with hq | hq
    · exact Nat.ne_of_lt (l2 q hq p hp) e
    rcases List.mem_append.mp hq with hq | hq
    · exact Nat.ne_of_lt (l1 q hq p hp) e
    · exact hoff p hp _ (List.mem_map.mpr ⟨q, hq, rfl⟩) e
  · intro p hp
    apply oM
    rcases List.mem_append.mp hp with hp | hp
    · exact List.mem_append_left _ hp
    refine List.mem_append_right _ ?_
    rcases List.mem_append.mp hp with hp | hp
    · exact List.mem_append_left _ hp
    exact List.mem_append_right _ (List.mem_append_left _ hp)
  · intro p hp
    apply oF
    rcases List.mem_append.mp hp with hp | hp
    · exact List.mem_append_left _ hp
    refine List.mem_append_right _ ?_
    rcases List.mem_append.mp hp with hp | hp
    · exact List.mem_append_left _ hp
    exact List.mem_append_right _ (List.mem_append_left _ hp)
  · intro p hp
    rcases List.mem_append.mp hp with hp | hp
    · exact List.mem_append_left _ hp
    refine List.mem_append_right _ ?_
    rcases List.mem_append.mp hp with hp | hp
    · exact List.mem_append_left _ hp
    exact List.mem_append_right _ (hsub p hp)
theorem lt_own {dM lF : Addr} {o1 o2 : Obj} {a pre tl own : Led} (h : ∀ q ∈ a, ∀ p ∈ (dM, o1) :: (lF, o2) :: (pre ++ (tl ++ own)), @LT.lt Nat _ p.1 q.1) : ∀ q ∈ a, ∀ p ∈ own, @LT.lt Nat _ p.1 q.1 :=
  fun q hq p hp => h q hq p (.tail _ (.tail _ (List.mem_append_right _ (List.mem_append_right _ hp))))
theorem off_tl {w : World} {dM lF : Addr} {m : MS} {n tl dl own : Led} (R : MRep w dM lF m n tl dl) (h : OwnOff own (n.map (·.1))) : OwnOff own (tl.map (·.1)) := by
  obtain ⟨ne, a, b, oM, vs, k, rfl, hM, hA⟩ := R
  exact fun p hp b hb => h p hp b (.tail _ (.tail _ hb))
local macro_rules | `(tactic| walk_at "exec For Name Call cons nil") => `(tactic| (k_here; (rename Fr _ _ _ _ => lF'); (with_unfolding_all refine' For_invVF lF' ?k1 ?k2 ?_; (case k1 => exact rfl); (case k2 => exact rfl); k_whole)))
local macro_rules | `(tactic| walk_at "pyIter ref") => `(tactic| (refine Stop.of ?_))
local macro_rules | `(tactic| walk_at "Exists") => `(tactic| (k_here; k_dflt (refine' kda_made_str ?F ?N ?B ?k ?n ?v ?_; (case F => k_asm); (case N => k_asm); (case B => exact Top.nolimit (by k_asm)); (case k => rfl); (case n => (dsimp only [strPairs, List.map]; decide +kernel)); (case v => rfl)); intro h' o' F' N' l1 lo' hd'; (try k_lt l1); (try dsimp only [strPairs] at hd'); (try dsimp only)))
local macro_rules | `(tactic| walk_at "KdnMade") => `(tactic| (k_here; (try dsimp only); k_dflt (refine' kdn_made_str ?F ?N ?U ?d ?k ?n ?_; (case F => k_asm); (case N => k_asm); (case U => k_updF); (case d => k_asm); (case k => rfl); (case n => (dsimp only [strPairs, List.map]; decide +kernel))); intro h' o' F' N' hd'; (try dsimp only [strPairs] at hd'); (try dsimp only at N'); (try dsimp only)))
local macro_rules | `(tactic| walk_at "call ref") => `(tactic| (k_here; k_dflt (first
  | (refine' spec_use (sort_slice _ _ _ _ _ _ (by assumption) _ _) ?B ?F ?X ?N ?T ?hk ?hd ?hu ?_; (case B => k_asm); (case F => k_asm); (case X => k_asm); (case N => first | k_asm | (rename News _ _ _ _ => NN; exact cb_drop NN (by walk_at "own k_subset"))); (case T => k_asm); (case hk => first | exact rfl | assumption); (case hd => ktr_room); (case hu => ktr_units); intro v9 n9 h9 tk9 P9 F9 N9; obtain ⟨e9, t9, e8⟩ := P9; subst e9; subst e8)
  | (refine' spec_use (leave_spec _ _ _ _ _ _ _ _ _ _ _ _ (by assumption) _ (by assumption) (by omega)) ?B ?F ?X ?N ?T ?hk ?hd ?hu ?_; (case B => k_asm); (case F => k_asm); (case X => k_asm); (case N => first | k_asm | (rename News _ _ _ _ => NN; exact cb_drop NN (by walk_at "own k_subset"))); (case T => k_asm); (case hk => first | exact rfl | assumption); (case hd => ktr_room); (case hu => ktr_units); intro v9 n9 h9 tk9 P9 F9 N9; obtain ⟨e9, add9, R9, lt9⟩ := P9; subst e9; have R8 := R9; obtain ⟨ne9, oM9, oF9, ob9, vs9, k9, en9, ⟨t19, t29, t39, t49, hD9⟩, hA9⟩ := R9; subst en9)
  | (refine' spec_use (inside_slice _ _ _ _ _ _ _ (by assumption) _ _ _ _ _ _ _ (by assumption) (by assumption) (by assumption) (by assumption)) ?B ?F ?X ?N ?T ?hk ?hd ?hu ?_; (case B => k_asm); (case F => k_asm); (case X => k_asm); (case N => first | k_asm | (rename News _ _ _ _ => NN; exact cb_drop NN (by walk_at "own k_subset"))); (case T => k_asm); (case hk => first | exact rfl | assumption); (case hd => ktr_room); (case hu => ktr_units); intro v9 n9 h9 tk9 P9 F9 N9; obtain ⟨e9, add9, R9, lt9⟩ := P9; subst e9; have R8 := R9; obtain ⟨ne9, oM9, oF9, ob9, vs9, k9, en9, ⟨t19, t29, t39, t49, hD9⟩, hA9⟩ := R9; subst en9)
  | (refine' spec_use (outside_slice _ _ _ _ _ _ _ (by assumption) _ _ _ _ _ _ _ _ _ (by assumption) (by assumption)) ?B ?F ?X ?N ?T ?hk ?hd ?hu ?_; (case B => k_asm); (case F => k_asm); (case X => k_asm); (case N => first | k_asm | (rename News _ _ _ _ => NN; exact cb_drop NN (by walk_at "own k_subset"))); (case T => k_asm); (case hk => first | exact rfl | assumption); (case hd => ktr_room); (case hu => ktr_units); intro v9 n9 h9 tk9 P9 F9 N9; obtain ⟨e9, add9, R9, lt9⟩ := P9; subst e9; have R8 := R9; obtain ⟨ne9, oM9, oF9, ob9, vs9, k9, en9, ⟨t19, t29, t39, t49, hD9⟩, hA9⟩ := R9; subst en9)); (try dsimp only); (try k_fold)))
theorem machine_spec (w : World) (mean : ExcName → Option Value) (mg mb : Str → Option Value) (x : Str) (tx : Tok) (hx : x.length ≤ 400) :
    Spec w mean mg mb 197 [.str x tx] [] 60 100 (MachPost x) := by
  unfold Spec
  k_fill
  intro dp un gd cn cs a ccd cl outer A₀ base h₀ L m s Q E B F X N T hk hd hu hret
  refine wpAny_call ?_
  k_dflt (refine' code_def (binds := [(Str.ofString "text", .str x tx)]) ?k1 ?k2 ?k3 ?k4 ?k5 ?kA ?kF ?kK ?k6 ?k7 ?k8 ?k9 ?kB ?_ ?c2 ?c3 ?c4 ?c5)
  (case kA => exact rfl)
  (case kF => exact rfl)
  (case kK => assumption)
  (case k1 => k_asm)
  (case k2 => k_asm)
  (case k3 => k_asm)
  (case k4 => k_asm)
  (case k5 => k_asm)
  (case k6 => k_is)
  (case k7 => k_is)
  (case k8 => ktr_room)
  (case k9 => k_dflt (exact BindsTo.of_eq rfl))
  (case c5 => decide)
  (case kB => exact locs rfl)
  (case c2 => exact rfl)
  (case c3 => exact rfl)
  (case c4 => exact rfl)
  intro g' L' h' FG' F' N' B' X' T'
  (try dsimp only)
  (try k_fold)

  k_steps
  unfold Stop
  (rename Fr _ _ _ _ => F₂)
  (rename News _ _ _ _ => N₂)
  (rename IsRange _ _ _ _ _ _ _ _ => hR)
  (rename Obj.IsDictOf _ _ _ => hD₂)
  (rename @LT.lt Nat _ _ _ => hlt)
  rename_i dM hx4 o4 lo4 hd4 l14 lF hx3 hx2 oM hx1 F4 N4 hx0 tk0 t1 u1 v1 a0
  refine range_cut (x.length + 1) (MJ w dM lF x tx) (ME w dM lF x tx) (L := L') (by rfl) (by rfl) hR (small_one (by decide) (by decide) (by omega) (by omega)) (by rw [rangeSize_one, if_pos (by omega)]; omega) F₂ (cb_drop N₂ (sub_cons (.tail _ (.head _)) (sub_cons (.head _) (fun _ h => absurd h List.not_mem_nil)))) ⟨[], [], ⟨Nat.ne_of_lt hlt, fun _ h => (nomatch h), fun _ h => (nomatch h), _, [], 0, rfl, ⟨_, _, _, _, hD₂⟩, .nil⟩, fun _ h => h, ok0, Int.le_refl _, run0_f, ⟨rfl, rfl, trivial⟩⟩ ?_ ?_ ?_
  all_goals clear F₂ N₂ hR hD₂ a0 F4 N4 hd4
  · rintro i t m₁ nx h₁ tk₁ own hi hoff ⟨tl, dl, R, hsub, ok, hb, hf, hp⟩ F₁ N₁
    replace F₁ := fr_pins F₁ (l := [(Str.ofString "text", .str x tx), (Str.ofString "machine", .ref dM), (Str.ofString "spot", .int (i : Int) t)]) ⟨hp.1, hp.2.1, rfl, trivial⟩
    have hof := ok.found
    have hoh := ok.held
    have hofT := off_tl R hoff
    have hsl : (Txt.slice x (some (i : Int)) (some ((i : Int) + 1))).length ≤ 1 := by rw [slice_sgn x (Nat.le_of_lt_succ hi)]; exact sgn_len _
    have lv := leave_lv (run x.cps.toList i) (srt x.cps.toList[i]?)
    have hlh : (leave (run x.cps.toList i) (srt x.cps.toList[i]?)).held.length ≤ 1000 := by rw [lv.held]; omega
    have hlf : (leave (run x.cps.toList i) (srt x.cps.toList[i]?)).found.length ≤ 1000 := by have := lv.found; omega
    clear lv hof hoh
    have R' : MRep w dM lF (run x.cps.toList i) (nx ++ own) (tl ++ own) dl := R.over hoff
    clear R
    obtain ⟨ne9, oM9, oF9, ob9, vs9, k9, en9, ⟨t19, t29, t39, t49, hD9⟩, hA9⟩ := id R'
    rw [en9] at R' N₁
    clear en9
    (try k_fold)
    k_steps
    all_goals (try dsimp only)
    · (rename MRep _ _ _ _ _ _ _ => RR); (rename Fr _ _ _ _ => FF); (rename News _ _ _ _ => NN); (rename ∀ q ∈ _, ∀ p ∈ _, @LT.lt Nat _ _ _ => l1)
      exact mach_brk ⟨[], _, RR, lt_own (pre := []) l1, fun _ h => absurd h List.not_mem_nil⟩ hsub FF NN hi (run_leave hf (by assumption)) (by assumption) ⟨rfl, rfl, trivial⟩
    · (rename Fr _ _ _ _ => FF); (rename News _ _ _ _ => NN); (rename ∀ q ∈ _, ∀ p ∈ _, @LT.lt Nat _ _ _ => l1); (rename Obj.IsDictOf _ _ _ => HH); (rename DatAll _ _ _ => HA); (rename ∀ p ∈ _ ++ _, @Prod.fst Addr Obj p ≠ dM => om); (rename ∀ p ∈ _ ++ _, @Prod.fst Addr Obj p ≠ lF => of)
      rw [slice_sgn x (Nat.le_of_lt_succ hi)] at HH
      have e := run_held hf (by assumption) (by assumption)
      have NN' : News g' L' _ ((dM, _) :: (lF, _) :: (_ ++ (tl ++ own))) := cb_drop NN (by walk_at "own k_subset")
      have RR : MRep w dM lF ⟨(leave (run x.cps.toList i) (srt x.cps.toList[i]?)).mode, (leave (run x.cps.toList i) (srt x.cps.toList[i]?)).held ++ sgn x.cps.toList[i]?, (leave (run x.cps.toList i) (srt x.cps.toList[i]?)).found, (leave (run x.cps.toList i) (srt x.cps.toList[i]?)).beg, (leave (run x.cps.toList i) (srt x.cps.toList[i]?)).fault⟩ _ _ _ := rep_mk NN' ne9 om of ⟨_, _, _, _, HH⟩ HA
      exact mach_next ⟨[], _, RR, lt_own (pre := []) l1, fun _ h => absurd h List.not_mem_nil⟩ hsub hofT FF NN' e (by assumption) ok hb hf ⟨rfl, rfl, trivial⟩
    · (rename MRep _ _ _ _ _ _ _ => RR); (rename Fr _ _ _ _ => FF); (rename News _ _ _ _ => NN); (rename ∀ q ∈ _, ∀ p ∈ _, @LT.lt Nat _ _ _ => l2); (rename ∀ q ∈ _, ∀ p ∈ (dM, ob9) :: _ , @LT.lt Nat _ _ _ => l1)
      exact mach_brk ⟨_, _, RR, lt_own (pre := []) l1, lt_own l2⟩ hsub FF NN hi (run_inside hf (by assumption) (by assumption) (by assumption)) (by assumption) ⟨rfl, rfl, trivial⟩
    · (rename MRep _ _ _ _ _ _ _ => RR); (rename Fr _ _ _ _ => FF); (rename News _ _ _ _ => NN); (rename ∀ q ∈ _, ∀ p ∈ _, @LT.lt Nat _ _ _ => l2); (rename ∀ q ∈ _, ∀ p ∈ (dM, ob9) :: _ , @LT.lt Nat _ _ _ => l1)
      exact mach_next ⟨_, _, RR, lt_own (pre := []) l1, lt_own l2⟩ hsub hofT FF NN (run_inside hf (by assumption) (by assumption) (by assumption)) (by assumption) ok hb hf ⟨rfl, rfl, trivial⟩
    · (rename MRep _ _ _ _ _ _ _ => RR); (rename Fr _ _ _ _ => FF); (rename News _ _ _ _ => NN); (rename ∀ q ∈ _, ∀ p ∈ _, @LT.lt Nat _ _ _ => l2); (rename ∀ q ∈ _, ∀ p ∈ (dM, ob9) :: _ , @LT.lt Nat _ _ _ => l1)
      exact mach_brk ⟨_, _, RR, lt_own (pre := []) l1, lt_own l2⟩ hsub FF NN hi (run_outside hf (by assumption) (by assumption) (by assumption)) (by assumption) ⟨rfl, rfl, trivial⟩
    · (rename MRep _ _ _ _ _ _ _ => RR); (rename Fr _ _ _ _ => FF); (rename News _ _ _ _ => NN); (rename ∀ q ∈ _, ∀ p ∈ _, @LT.lt Nat _ _ _ => l2); (rename ∀ q ∈ _, ∀ p ∈ (dM, ob9) :: _ , @LT.lt Nat _ _ _ => l1)
      exact mach_next ⟨_, _, RR, lt_own (pre := []) l1, lt_own l2⟩ hsub hofT FF NN (run_outside hf (by assumption) (by assumption) (by assumption)) (by assumption) ok hb hf ⟨rfl, rfl, trivial⟩
  · rintro m nx ⟨tl, dl, R, hsub, -, -, -, hp⟩
    exact ⟨tl, dl, R, hsub, hp⟩
  · rintro h₁ tk₁ m₁ nx F₁ N₁ ⟨tl, dl, R, hsub, hp⟩
    replace F₁ := fr_pins F₁ hp
    obtain ⟨ne9, oM9, oF9, ob9, vs9, k9, en9, ⟨t19, t29, t39, t49, hD9⟩, hA9⟩ := R
    subst en9
    (try dsimp only)
    (try k_fold)
    k_steps
    (rename News _ _ _ _ => NN)
    exact hret _ _ _ _ ⟨_, _, _, _, _, _, rfl, rfl, hA9.mono hsub⟩ (by k_asm) (cb_drop NN (by walk_at "own k_subset"))
end
end Mine
namespace Mine
section
def upto (p : Nat → Bool) (l : List Nat) (i : Nat) : Nat := i + ((l.drop i).takeWhile p).length
def strOf (l : List Nat) : Str := ⟨l.toArray⟩
section
variable {p : Nat → Bool} {l : List Nat} {i k c : Nat}
theorem upto_step (h : l[k]? = some c) (hp : p c = true) : upto p l (k + 1) = upto p l k := by
  obtain ⟨hk, e⟩ := List.getElem?_eq_some_iff.mp h
  unfold upto
  rw [List.drop_eq_getElem_cons hk, e, List.takeWhile_cons, if_pos hp, List.length_cons]
  omega
theorem upto_no (h : l[k]? = some c) (hp : p c = false) : upto p l k = k := by
  obtain ⟨hk, e⟩ := List.getElem?_eq_some_iff.mp h
  unfold upto
  rw [List.drop_eq_getElem_cons hk, e, List.takeWhile_cons, if_neg (by rw [hp]; exact Bool.false_ne_true)]
  rfl
theorem upto_nil (h : l.length ≤ k) : upto p l k = k := by
  unfold upto
  rw [List.drop_eq_nil_of_le h]
  rfl
theorem upto_ge : i ≤ upto p l i := by unfold upto; omega
theorem upto_le (h : i ≤ l.length) : upto p l i ≤ l.length := by
  unfold upto
  have := (List.takeWhile_sublist (l := l.drop i) p).length_le
  rw [List.length_drop] at this
  omega
theorem take_upto : (l.drop i).take (upto p l i - i) = (l.drop i).takeWhile p := by
  unfold upto
  rw [Nat.add_sub_cancel_left]
  exact (List.prefix_iff_eq_take.mp (List.takeWhile_prefix p)).symm
end
theorem len_list (x : Str) : x.cps.toList.length = x.length := by simp [Str.length]
theorem slice_upto (x : Str) (p : Nat → Bool) {i : Nat} (hi : i ≤ x.length) : Txt.slice x (some (i : Int)) (some ((upto p x.cps.toList i : Nat) : Int)) = strOf ((x.cps.toList.drop i).takeWhile p) := by
  rw [slice_any x upto_ge hi, take_upto]; rfl
theorem item_at (x : Str) {k : Nat} (hk : (k : Int) < (x.length : Int)) : ∃ c, x.cps.toList[k]? = some c ∧ Txt.item x (k : Int) = ⟨#[c]⟩ := by
  have hk' : k < x.cps.toList.length := by rw [len_list]; omega
  refine ⟨x.cps.toList[k], List.getElem?_eq_getElem hk', ?_⟩
  have h1 : ¬ ((k : Int) < 0) := by omega
  have e : Txt.charAt x (k : Int) = some (x.cps.toList[k]) := by
    unfold Txt.charAt
    have hs : seqIndex? (k : Int) x.length = some k := by
      unfold seqIndex?
      simp [h1]
      omega
    rw [hs]
    show x.cps[k]? = some _
    rw [← Array.getElem?_toList, List.getElem?_eq_getElem hk']
  unfold Txt.item
  rw [e]; rfl
theorem strOf_length (l : List Nat) : (strOf l).length = l.length := by simp [strOf, Str.length]
theorem run_len (x : Str) (p : Nat → Bool) (i : Nat) : (strOf ((x.cps.toList.drop i).takeWhile p)).length ≤ x.length := by
  rw [strOf_length]
  have h1 := (List.takeWhile_sublist (l := x.cps.toList.drop i) p).length_le
  rw [List.length_drop, len_list] at h1
  omega
def noNl (c : Nat) : Bool := !(c == 10)
theorem upto_first {p : Nat → Bool} {l : List Nat} {i j : Nat} (hij : i ≤ j) (hj : j ≤ l.length) (hall : ∀ v, i ≤ v → v < j → ∃ c, l[v]? = some c ∧ p c = true) (hend : j = l.length ∨ ∃ c, l[j]? = some c ∧ p c = false) : upto p l i = j := by
  have key : ∀ n i, i ≤ j → j - i = n → (∀ v, i ≤ v → v < j → ∃ c, l[v]? = some c ∧ p c = true) → upto p l i = j := by
    intro n
    induction n with
    | zero =>
      intro i h1 h2 _
      have e : i = j := by omega
      subst e
      rcases hend with h | ⟨c, h, hp⟩
      · exact upto_nil (by omega)
      · exact upto_no h hp
    | succ n ih =>
      intro i h1 h2 h3
      obtain ⟨c, h, hp⟩ := h3 i (Nat.le_refl _) (by omega)
      rw [← upto_step h hp]
      exact ih (i + 1) (by omega) (by omega) fun v a b => h3 v (by omega) b
  exact key _ i hij rfl hall
theorem getD_at (x : Str) {v : Nat} (h : v < x.length) : ∃ c, x.cps.toList[v]? = some c ∧ x.cps.getD v 0 = c := by
  have h' : v < x.cps.toList.length := by rw [len_list]; exact h
  refine ⟨x.cps.toList[v], List.getElem?_eq_getElem h', ?_⟩
  have h2 : v < x.cps.size := h
  simp [Array.getD, h2]
theorem find_nl (x : Str) {i : Nat} (hi : i ≤ x.length) : (0 ≤ Txt.find3 x (Str.ofString "\n") (i : Int) → Txt.find3 x (Str.ofString "\n") (i : Int) = ((upto noNl x.cps.toList i : Nat) : Int)) ∧
    (¬ 0 ≤ Txt.find3 x (Str.ofString "\n") (i : Int) → upto noNl x.cps.toList i = x.length) := by
  have hf : fromIndex x.length (i : Int) = i := by
    unfold fromIndex
    have h1 : ¬ ((i : Int) < 0) := by omega
    rw [if_neg h1]
    omega
  have nn : ∀ {c : Nat}, c ≠ 10 → noNl c = true := by intro c h; simp [noNl, h]
  rw [show Str.ofString "\n" = ⟨#[10]⟩ from rfl]
  rcases StrLaws.find3_spec x 10 (i : Int) with ⟨h, hall⟩ | ⟨k, h, hlo, hk, hc, hall⟩
  · refine ⟨fun q => absurd q (by rw [h]; decide), fun _ => ?_⟩
    refine upto_first hi (by rw [len_list]; exact Nat.le_refl _) (fun v a b => ?_) (.inl (len_list x).symm)
    obtain ⟨c, e1, e2⟩ := getD_at x b
    exact ⟨c, e1, nn (e2 ▸ hall v (by rw [hf]; exact a) b)⟩
  · refine ⟨fun _ => ?_, fun q => absurd q (by rw [h]; omega)⟩
    rw [h]
    rw [hf] at hlo
    refine congrArg _ (upto_first hlo (by rw [len_list]; omega) (fun v a b => ?_) (.inr ?_)).symm
    · obtain ⟨c, e1, e2⟩ := getD_at x (show v < x.length by omega)
      exact ⟨c, e1, nn (e2 ▸ hall v (by rw [hf]; exact a) b)⟩
    · obtain ⟨c, e1, e2⟩ := getD_at x hk
      exact ⟨c, e1, by rw [← e2, hc]; rfl⟩
theorem skip_dec {l : List Nat} {j : Nat} (h : l[j]? = some 37) : l.length - upto isBlk l (upto noNl l j) < l.length - j := by
  obtain ⟨hj, e⟩ := List.getElem?_eq_some_iff.mp h
  have h1 := upto_step (p := noNl) h (by decide)
  have h2 : j + 1 ≤ upto noNl l (j + 1) := upto_ge
  have h3 : upto noNl l j ≤ upto isBlk l (upto noNl l j) := upto_ge
  omega
def skipFrom (l : List Nat) (j : Nat) : Nat :=
  if h : l[j]? = some 37 then skipFrom l (upto isBlk l (upto noNl l j)) else j
termination_by l.length - j
decreasing_by exact skip_dec h
theorem skip_yes {l : List Nat} {j : Nat} (h : l[j]? = some 37) : skipFrom l (upto isBlk l (upto noNl l j)) = skipFrom l j := by
  conv => rhs; rw [skipFrom, dif_pos h]
theorem skip_no {l : List Nat} {j : Nat} (h : l[j]? ≠ some 37) : skipFrom l j = j := by
  rw [skipFrom, dif_neg h]
def skipTo (l : List Nat) (i : Nat) : Nat := skipFrom l (upto isBlk l i)
end
end Mine
namespace Mine
section
theorem fresh_RunOf : True := by w_top off; trivial
set_option maxHeartbeats 1000000
local macro_rules | `(tactic| k_all) => `(tactic| assumption)
local macro_rules | `(tactic| walk_at "own lt_of") => `(tactic| (first | assumption | (rename _ ∧ _ => nn; with_reducible first | exact nn.1 | exact nn.2.1 | exact nn.2.2 | exact nn.2.2.1 | exact nn.2.2.2 | exact nn.2.2.2.1 | exact nn.2.2.2.2 | exact nn.2.2.2.2.1 | exact nn.2.2.2.2.2)))
theorem sign_spec (w : World) (mean : ExcName → Option Value) (mg mb : Str → Option Value) (sc dS : Nat) (x : Str) (kt ks tx ti : Tok) (i : Nat) (hi : i ≤ x.length) (hx : x.length ≤ 400) (tl : Led) (hne : @Ne Nat sc dS) (hoff : ∀ p ∈ tl, p.1 ≠ dS) :
   Spec w mean mg mb 104 [.ref sc] ((sc, instObj 142 dS) :: (dS, scD w.params kt ks x tx i ti) :: tl) 8 8 (fun v news' => news' = ((sc, instObj 142 dS) :: (dS, scD w.params kt ks x tx i ti) :: tl) ∧ ∃ t, v = .str (sgn x.cps.toList[i]?) t) := by
  unfold Spec
  k_fill
  intro dp un gd cn cs a ccd cl outer A₀ base h₀ L m s Q E B F X N T hk hd hu hret
  refine wpAny_call ?_
  k_dflt (refine' code_def (binds := [(Str.ofString "self", .ref sc)]) ?k1 ?k2 ?k3 ?k4 ?k5 ?kA ?kF ?kK ?k6 ?k7 ?k8 ?k9 ?kB ?_ ?c2 ?c3 ?c4 ?c5)
  (case kA => exact rfl)
  (case kF => exact rfl)
  (case kK => assumption)
  (case k1 => k_asm)
  (case k2 => k_asm)
  (case k3 => k_asm)
  (case k4 => k_asm)
  (case k5 => k_asm)
  (case k6 => k_is)
  (case k7 => k_is)
  (case k8 => ktr_room)
  (case k9 => k_dflt (exact BindsTo.of_eq rfl))
  (case c5 => decide)
  (case kB => exact locs rfl)
  (case c2 => exact rfl)
  (case c3 => exact rfl)
  (case c4 => exact rfl)
  intro g' L' h' FG' F' N' B' X' T'
  (try dsimp only)
  (try k_fold)

  k_steps
  refine hret _ _ _ _ ⟨rfl, ?_⟩ (by k_asm) (by k_asm)
  rw [slice_sgn x hi]
  exact ⟨_, rfl⟩
local macro_rules | `(tactic| walk_at "exec While BoolOp cons nil") => `(tactic| (refine Stop.of ?_))
theorem run_of_spec (w : World) (mean : ExcName → Option Value) (mg mb : Str → Option Value) (y : Str) (ty : Tok) (p : Nat → Bool) (hp : ∀ c, (PySem.Builtin.Str.occurrences y ⟨#[c]⟩ 0 y.length 1).isEmpty = !p c) (sc dS : Nat) (x : Str) (kt ks tx ti : Tok) (i : Nat) (hi : i ≤ x.length) (hx : x.length ≤ 400) (tl : Led) (hne : @Ne Nat sc dS) (hoff : ∀ p ∈ tl, p.1 ≠ dS) :
   Spec w mean mg mb 118 [.ref sc, .str y ty] ((sc, instObj 142 dS) :: (dS, scD w.params kt ks x tx i ti) :: tl) 8 8 (fun v news' => ∃ t' tv, news' = ((sc, instObj 142 dS) :: (dS, scD w.params kt ks x tx (upto p x.cps.toList i : Nat) t') :: tl) ∧ v = .str (strOf ((x.cps.toList.drop i).takeWhile p)) tv) := by
  unfold Spec
  k_fill
  intro dp un gd cn cs a ccd cl outer A₀ base h₀ L m s Q E B F X N T hk hd hu hret
  refine wpAny_call ?_
  k_dflt (refine' code_def (binds := [(Str.ofString "self", .ref sc), (Str.ofString "signs", .str y ty)]) ?k1 ?k2 ?k3 ?k4 ?k5 ?kA ?kF ?kK ?k6 ?k7 ?k8 ?k9 ?kB ?_ ?c2 ?c3 ?c4 ?c5)
  (case kA => exact rfl)
  (case kF => exact rfl)
  (case kK => assumption)
  (case k1 => k_asm)
  (case k2 => k_asm)
  (case k3 => k_asm)
  (case k4 => k_asm)
  (case k5 => k_asm)
  (case k6 => k_is)
  (case k7 => k_is)
  (case k8 => ktr_room)
  (case k9 => k_dflt (exact BindsTo.of_eq rfl))
  (case c5 => decide)
  (case kB => exact locs rfl)
  (case c2 => exact rfl)
  (case c3 => exact rfl)
  (case c4 => exact rfl)
  intro g' L' h' FG' F' N' B' X' T'
  (try dsimp only)
  (try k_fold)

  k_steps
  (try dsimp only)
  unfold Stop
  (rename Fr _ _ _ _ => F₂)
  (rename News _ _ _ _ => N₂)
  refine while_cut (fun n m nx => ∃ (k : Nat) (t : Tok), n = x.length - k ∧ upto p x.cps.toList k = upto p x.cps.toList i ∧ k ≤ x.length ∧ Pins m [(Str.ofString "self", .ref sc), (Str.ofString "signs", .str y ty), (Str.ofString "begin", .int i ti), (Str.ofString "spot", .int k t)] ∧ nx = ((sc, instObj 142 dS) :: (dS, scD w.params kt ks x tx i ti) :: tl))
    (fun m nx => ∃ (t : Tok), Pins m [(Str.ofString "self", .ref sc), (Str.ofString "signs", .str y ty), (Str.ofString "begin", .int i ti), (Str.ofString "spot", .int (upto p x.cps.toList i : Nat) t)] ∧ nx = ((sc, instObj 142 dS) :: (dS, scD w.params kt ks x tx i ti) :: tl))
    (x.length - i) F₂ (cb_drop N₂ (by walk_at "own k_subset")) ⟨i, ti, rfl, rfl, hi, ⟨rfl, rfl, rfl, rfl, trivial⟩, rfl⟩ ?_ ?_
  all_goals clear F₂ N₂
  rotate_left
  · rintro h₁ tk₁ m₁ nx F₁ N₁ ⟨t, hp, rfl⟩
    replace F₁ := fr_pins F₁ hp
    have hu := upto_le (p := p) (l := x.cps.toList) (i := i) (by rw [len_list]; exact hi)
    (try dsimp only)
    (try k_fold)
    k_steps
    exact hret _ _ _ _ ⟨_, _, rfl, congrArg (fun z => Value.str z _) (slice_upto x p hi)⟩ (by k_asm) (by k_asm)
  rintro n m₁ nx h₁ tk₁ F₁ N₁ ⟨k, t, rfl, hik, hk', hpi, rfl⟩
  replace F₁ := fr_pins F₁ hpi
  (try k_fold)
  k_steps
  · (rename (PySem.Builtin.Str.occurrences _ _ _ _ _).isEmpty = _ => hoc)
    (rename (k : Int) < _ => hlt)
    obtain ⟨c, hc, he⟩ := item_at x hlt
    rw [he, hp c] at hoc
    have hc' : p c = false := by revert hoc; cases p c <;> simp
    have e := (upto_no hc hc').symm.trans hik
    exact ⟨_, _, _, _, rfl, by k_asm, cb_drop N₁ (by walk_at "own k_subset"), t, by rw [← e]; exact ⟨rfl, rfl, rfl, rfl, trivial⟩, rfl⟩
  · (rename (PySem.Builtin.Str.occurrences _ _ _ _ _).isEmpty = _ => hoc)
    (rename (k : Int) < _ => hlt)
    (rename Fr _ _ _ _ => FF); (rename News _ _ _ _ => NN)
    obtain ⟨c, hc, he⟩ := item_at x hlt
    rw [he, hp c] at hoc
    have hc' : p c = true := by revert hoc; cases p c <;> simp
    have e := (upto_step hc hc').trans hik
    refine ⟨_, _, _, _, x.length - (k + 1), rfl, FF, NN, by omega, k + 1, _, rfl, e, by omega, ⟨rfl, rfl, rfl, rfl, trivial⟩, rfl⟩
  · (rename Fr _ _ _ _ => FF); (rename News _ _ _ _ => NN)
    (rename ¬ ((k : Int) < _) => hlt)
    have e := (upto_nil (p := p) (by rw [len_list]; omega)).symm.trans hik
    exact ⟨_, _, _, _, rfl, FF, NN, t, by rw [← e]; exact ⟨rfl, rfl, rfl, rfl, trivial⟩, rfl⟩
end
end Mine
namespace Mine
section
theorem fresh_SkipS : True := by w_top off; trivial
set_option maxHeartbeats 1000000
local macro_rules | `(tactic| k_all) => `(tactic| assumption)
local macro_rules | `(tactic| walk_at "own lt_of") => `(tactic| (first | assumption | (rename _ ∧ _ => nn; with_reducible first | exact nn.1 | exact nn.2.1 | exact nn.2.2 | exact nn.2.2.1 | exact nn.2.2.2 | exact nn.2.2.2.1 | exact nn.2.2.2.2 | exact nn.2.2.2.2.1 | exact nn.2.2.2.2.2)))
local macro_rules | `(tactic| walk_at "call ref") => `(tactic| (k_here; k_dflt (first
  | (refine' spec_use (sign_spec _ _ _ _ _ _ _ _ _ _ _ _ ?hi ?hx _ ?ne ?off) ?B ?F ?X ?N ?T ?hk ?hd ?hu ?_; (case B => k_asm); (case F => k_asm); (case X => k_asm); (case N => first | k_asm | (rename News _ _ _ _ => NN; have N8 := cb_tail NN; first | k_asm | (have N7 := cb_tail N8; k_asm))); (case T => k_asm); (case hi => first | assumption | omega); (case hx => assumption); (case ne => assumption); (case off => first | assumption | exact off_cons (by assumption) (by assumption)); (case hk => first | exact rfl | assumption); (case hd => ktr_room); (case hu => ktr_units); intro v9 n9 h9 tk9 P9 F9 N9; obtain ⟨e9, t9, e8⟩ := P9; subst e9; subst e8)
  | (refine' spec_use (run_of_spec _ _ _ _ _ _ isBlk occ_blk _ _ _ _ _ _ _ _ ?hi ?hx _ ?ne ?off) ?B ?F ?X ?N ?T ?hk ?hd ?hu ?_; (case B => k_asm); (case F => k_asm); (case X => k_asm); (case N => first | k_asm | (rename News _ _ _ _ => NN; have N8 := cb_tail NN; first | k_asm | (have N7 := cb_tail N8; k_asm))); (case T => k_asm); (case hi => first | assumption | omega); (case hx => assumption); (case ne => assumption); (case off => first | assumption | exact off_cons (by assumption) (by assumption)); (case hk => first | exact rfl | assumption); (case hd => ktr_room); (case hu => ktr_units); intro v9 n9 h9 tk9 P9 F9 N9; obtain ⟨t9, u9, e9, e8⟩ := P9; subst e9; subst e8)); (try dsimp only); (try k_fold)))
local macro_rules | `(tactic| walk_at "exec While Compare cons nil") => `(tactic| (refine Stop.of ?_))
theorem skip_spec (w : World) (mean : ExcName → Option Value) (mg mb : Str → Option Value) (sc dS : Nat) (x : Str) (kt ks tx ti : Tok) (i : Nat) (hi : i ≤ x.length) (hx : x.length ≤ 400) (tl : Led) (hne : @Ne Nat sc dS) (hoff : ∀ p ∈ tl, p.1 ≠ dS) :
   Spec w mean mg mb 111 [.ref sc] ((sc, instObj 142 dS) :: (dS, scD w.params kt ks x tx i ti) :: tl) 20 30 (fun v news' => v = .none ∧ ∃ t', news' = ((sc, instObj 142 dS) :: (dS, scD w.params kt ks x tx (skipTo x.cps.toList i : Nat) t') :: tl)) := by
  unfold Spec
  k_fill
  intro dp un gd cn cs a ccd cl outer A₀ base h₀ L m s Q E B F X N T hk hd hu hret
  refine wpAny_call ?_
  k_dflt (refine' code_def (binds := [(Str.ofString "self", .ref sc)]) ?k1 ?k2 ?k3 ?k4 ?k5 ?kA ?kF ?kK ?k6 ?k7 ?k8 ?k9 ?kB ?_ ?c2 ?c3 ?c4 ?c5)
  (case kA => exact rfl)
  (case kF => exact rfl)
  (case kK => assumption)
  (case k1 => k_asm)
  (case k2 => k_asm)
  (case k3 => k_asm)
  (case k4 => k_asm)
  (case k5 => k_asm)
  (case k6 => k_is)
  (case k7 => k_is)
  (case k8 => ktr_room)
  (case k9 => k_dflt (exact BindsTo.of_eq rfl))
  (case c5 => decide)
  (case kB => exact locs rfl)
  (case c2 => exact rfl)
  (case c3 => exact rfl)
  (case c4 => exact rfl)
  intro g' L' h' FG' F' N' B' X' T'
  (try dsimp only)
  (try k_fold)

  k_steps
  unfold Stop
  (rename Fr _ _ _ _ => F₂)
  (rename News _ _ _ _ => N₂)
  refine while_cut (fun n m nx => ∃ (k : Nat) (t : Tok), n = x.length - k ∧ skipFrom x.cps.toList k = skipFrom x.cps.toList (upto isBlk x.cps.toList i) ∧ k ≤ x.length ∧ Pins m [(Str.ofString "self", .ref sc)] ∧ nx = ((sc, instObj 142 dS) :: (dS, scD w.params kt ks x tx k t) :: tl))
    (fun m nx => ∃ (t : Tok), Pins m [(Str.ofString "self", .ref sc)] ∧ nx = ((sc, instObj 142 dS) :: (dS, scD w.params kt ks x tx (skipFrom x.cps.toList (upto isBlk x.cps.toList i) : Nat) t) :: tl))
    (x.length - upto isBlk x.cps.toList i) F₂ (cb_drop N₂ (by walk_at "own k_subset")) ⟨_, _, rfl, rfl, by rw [← len_list]; exact upto_le (by rw [len_list]; exact hi), ⟨rfl, trivial⟩, rfl⟩ ?_ ?_
  all_goals clear F₂ N₂
  rotate_left
  · rintro h₁ tk₁ m₁ nx F₁ N₁ ⟨t, hp, rfl⟩
    replace F₁ := fr_pins F₁ hp
    (try dsimp only)
    (try k_fold)
    k_steps
    exact hret _ _ _ _ ⟨rfl, _, rfl⟩ (by k_asm) (by k_asm)
  rintro n m₁ nx h₁ tk₁ F₁ N₁ ⟨k, t, rfl, hik, hk', hpi, rfl⟩
  replace F₁ := fr_pins F₁ hpi
  have hnl := find_nl x hk'
  have hle : upto noNl x.cps.toList k ≤ x.length := by rw [← len_list]; exact upto_le (by rw [len_list]; exact hk')
  have hle2 : upto isBlk x.cps.toList (upto noNl x.cps.toList k) ≤ x.length := by rw [← len_list]; exact upto_le (by rw [len_list]; exact hle)
  (try k_fold)
  k_steps
  · (rename 0 ≤ Txt.find3 _ _ _ => hq)
    have e := hnl.1 hq
    (rename News _ _ _ _ => NN)
    rw [e] at NN
    k_steps
    (rename (sgn _ == _) = true => hs)
    have h37 := sgn_c 37 rfl hs
    have hd := skip_dec h37
    rw [len_list] at hd
    (rename Fr _ _ _ _ => FF); (rename News _ _ _ _ => NN2)
    exact ⟨_, _, _, _, _, rfl, FF, NN2, hd, _, _, rfl, (skip_yes h37).trans hik, hle2, ⟨rfl, trivial⟩, rfl⟩
  · (rename ¬ 0 ≤ Txt.find3 _ _ _ => hq)
    have e := hnl.2 hq
    (rename (sgn _ == _) = true => hs)
    have h37 := sgn_c 37 rfl hs
    have hd := skip_dec h37
    have hy := skip_yes h37
    rw [len_list] at hd
    rw [e] at hd hle2 hy
    (rename Fr _ _ _ _ => FF); (rename News _ _ _ _ => NN2)
    exact ⟨_, _, _, _, _, rfl, FF, NN2, hd, _, _, rfl, hy.trans hik, hle2, ⟨rfl, trivial⟩, rfl⟩
  · (rename (sgn _ == _) = false => hs)
    have h37 := skip_no (sgn_n 37 rfl hs)
    (rename Fr _ _ _ _ => FF); (rename News _ _ _ _ => NN2)
    have e := h37.symm.trans hik
    exact ⟨_, _, _, _, rfl, FF, NN2, t, ⟨rfl, trivial⟩, by rw [← e]⟩
end
end Mine
namespace Mine
section
open Sem (wp)
/-! the making of an exception whose class is two own classes away from a built-in one -/
section
variable {M : Model} {A : Around} {E : Value → Shared → Prop} {h : Heap} {g : Array GenState} {d : Drawn} {t : Nat} {os : OsState}
variable {nm q : Str} {C N : Addr} {bs bm bmN : List Value} {hdct : Bool} {sn : List Str} {sub : List Value} {ab : Bool} {col : Option Bool} {dd : Option Addr} {k0 k1 k2 k3 k5 : Option Value} {Bn newId inN : String}
theorem new_checked (Fn : ExcBaseFacts Bn newId inN bmN) (hcont : (Value.ref C :: bm).contains (.type Bn) = true) {rest : List Value} {Q : Unit → Shared → Prop} (hC : h.get? C = some (excClassObj nm q C N bs bm hdct sn sub ab col dd k0 k1 k2 k3 k5 newId))
    (hq : Q () ⟨h, g, d, t, os⟩) : wpAny M A (checkBuiltinCall newId ⟨.ref C :: rest, []⟩) Q E ⟨h, g, d, t, os⟩ := by
  have hstar := Fn.noStar
  simp only [checkBuiltinCall, Fn.newKind, Fn.newSplit, Fn.newRow]
  repeat (first | refine wpAny_loadPart_at hC ?_ | (refine wpAny_isSubtype_exc hC ?_; rw [hcont]) | refine wpAny_staticBase_exc hC ?_ | refine wpAny_madeBy_exc hC ?_ | simp only [bne_self_eq_false, Bool.false_eq_true, if_false] | wp_step)
  exact hq
end
section
variable {prog : Program} {w : World} {A : Around} {R : Result → Shared → Prop} {E : Value → Shared → Prop} {h : Heap} {g : Array GenState} {d : Drawn} {t : Nat} {os : OsState}
variable {nm q : Str} {C N : Addr} {bs bm bmN : List Value} {hdct : Bool} {sn : List Str} {sub : List Value} {ab : Bool} {col : Option Bool} {dd : Option Addr} {k0 k1 k2 k3 k5 : Option Value} {Bn newId inN : String}
theorem new_made (Fn : ExcBaseFacts Bn newId inN bmN) (hcB : (Value.ref C :: bm).contains (.type Bn) = true) (hcA : (Value.ref C :: bm).contains (.type "AttributeError") = false) (hcN : (Value.ref C :: bm).contains (.type "NameError") = false) {rest : List Value}
    (hC : h.get? C = some (excClassObj nm q C N bs bm hdct sn sub ab col dd k0 k1 k2 k3 k5 newId))
    (hq : R (.ok (.ret (.ref (h.objs.size + 1)))) ⟨(h.push { cls := .type "tuple", data := .seq rest.toArray }).push
      { cls := .ref C, data := .fields #[.ref h.objs.size, .none, .none, .none, .bool false, .none] }, g, d, t, os⟩) (hrest : rest.length ≤ sizeLine) :
    codeAny (model prog w) A (.builtin newId ⟨.ref C :: rest, []⟩) R ⟨h, g, d, t, os⟩ := by
  have hends := Fn.ends
  refine codeAny_builtinAt Fn.entry ?_
  unfold Builtin.«BaseException.__new__»
  refine _root_.PySem.wpAt_bind ?_
  show _root_.PySem.wpAt _ _ _ (stack >>= _) _ _ _
  refine _root_.PySem.wpAt_bind (_root_.PySem.wpAt_stack fun p below => _root_.PySem.wpAt_of_wpAny ?_)
  wp_walk
  refine _root_.PySem.wpAt_of_wpAny ?_
  rw [Fn.owner]
  repeat (first | with_reducible refine wpAny_madeHere_exc Fn.canon hC ?_ | with_reducible refine wpAny_loadPart_at hC ?_ | (with_reducible refine wpAny_isSubtype_exc hC ?_; first | rw [hcB] | rw [hcA] | rw [hcN]) | wp_step)
  show R _ _
  rw [Heap.size_push]
  exact hq
/-- a call of the class: a new exception, then its own __init__ -/
theorem type_called (Fn : ExcBaseFacts Bn newId inN bmN) (hcB : (Value.ref C :: bm).contains (.type Bn) = true) (hcA : (Value.ref C :: bm).contains (.type "AttributeError") = false) (hcN : (Value.ref C :: bm).contains (.type "NameError") = false) {rest : List Value} {K : Frag} {fI : Addr} {oI : Obj} {Q : PySem.Fin → Shared → Prop}
    (X : K.In h) (hC : h.get? C = some (excClassObj nm q C N bs bm hdct sn sub ab col dd k0 k1 k2 k3 k5 newId)) (hi : findIn K (.ref C) "__init__" = some (some (.ref fI)))
    (hfI : h.get? fI = some oI) (hfc : oI.cls = .type "function") (hrest : rest.length ≤ sizeLine)
    (hq : ∀ h' e t', e = h.objs.size + 1 → t' = h.objs.size → (∀ b o, h.get? b = some o → h'.get? b = some o) → h'.get? e = some { cls := .ref C, data := .fields #[.ref t', .none, .none, .none, .bool false, .none] } → h'.get? t' = some { cls := .type "tuple", data := .seq rest.toArray } →
      wpAny (model prog w) A (call (.ref fI) (.ref e :: rest)) (fun r s' => r = .none ∧ Q (.done (.ret (.ref e))) s') E ⟨h', g, d, t, os⟩) :
    wpAny (model prog w) A (Builtin.«type.__call__» ⟨.ref C :: rest, []⟩) Q E ⟨h, g, d, t, os⟩ := by
  repeat (first | with_reducible refine wpAny_loadPart_at hC ?_ | with_reducible refine wpAny_madeBy_exc hC ?_ | wp_step)
  refine codeAny_call_builtin_code (Code.quiet_builtin _ Fn.quiet) (new_checked Fn hcB hC ?_)
  refine new_made Fn hcB hcA hcN hC ?_ hrest
  show wpAny _ _ _ _ _ _
  have up : ∀ b o, h.get? b = some o → ((h.push { cls := .type "tuple", data := .seq rest.toArray }).push { cls := .ref C, data := .fields #[.ref h.objs.size, .none, .none, .none, .bool false, .none] }).get? b = some o := fun b o e => Heap.get?_push_of_some _ (Heap.get?_push_of_some _ e)
  have hget : ((h.push { cls := .type "tuple", data := .seq rest.toArray }).push
      { cls := .ref C, data := .fields #[.ref h.objs.size, .none, .none, .none, .bool false, .none] }).get? (h.objs.size + 1) = some
      { cls := .ref C, data := .fields #[.ref h.objs.size, .none, .none, .none, .bool false, .none] } := by heap_get
  have hcC : (Value.ref C :: bm).contains (.ref C) = true := by simp
  have hC₁ := up _ _ hC
  unfold isInstance
  repeat (first | with_reducible refine wpAny_loadPart_at hget ?_ | (with_reducible refine wpAny_isSubtype_exc hC₁ ?_; rw [hcC]) | wp_step)
  show wpAny _ _ (typeLookup (.ref C) _) _ _ _
  refine (looks_findIn (X.keeps up) hi).here ?_
  refine wpAny_holding (wpAny_bind ?_)
  unfold bindSpecial
  refine wpAny_bind (wpAny_typeOf (T := "function") ⟨_, up _ _ hfI, hfc⟩ ?_)
  rw [if_pos (by decide)]
  refine wpAny_pure (wpAny_bind (wpAny_mono (hq _ _ _ rfl rfl up hget (Heap.get?_push_of_some _ (Heap.get?_push_at rfl rfl))) (fun r s' hr => ?_) fun _ _ x => x))
  obtain ⟨rfl, hQ⟩ := hr
  wp_walk
  exact hQ
theorem exc_called (Fn : ExcBaseFacts Bn newId inN bmN) (hcB : (Value.ref C :: bm).contains (.type Bn) = true) (hcA : (Value.ref C :: bm).contains (.type "AttributeError") = false) (hcN : (Value.ref C :: bm).contains (.type "NameError") = false) {rest : List Value} {K : Frag} {fI : Addr} {oI : Obj} {Q : Value → Shared → Prop}
    (X : K.In h) (hC : h.get? C = some (excClassObj nm q C N bs bm hdct sn sub ab col dd k0 k1 k2 k3 k5 newId)) (hi : findIn K (.ref C) "__init__" = some (some (.ref fI)))
    (hfI : h.get? fI = some oI) (hfc : oI.cls = .type "function") (hrest : rest.length ≤ sizeLine)
    (hq : ∀ h' e t', e = h.objs.size + 1 → t' = h.objs.size → (∀ b o, h.get? b = some o → h'.get? b = some o) → h'.get? e = some { cls := .ref C, data := .fields #[.ref t', .none, .none, .none, .bool false, .none] } → h'.get? t' = some { cls := .type "tuple", data := .seq rest.toArray } →
      wpAny (model prog w) (A.under (.builtin "type.__call__" ⟨.ref C :: rest, []⟩)) (call (.ref fI) (.ref e :: rest)) (fun r s' => r = .none ∧ Q (.ref e) s') E ⟨h', g, d, t, os⟩) :
    wpAny (model prog w) A (call (.ref C) rest) Q E ⟨h, g, d, t, os⟩ := by
  have f1 := tc_lookup
  have f2 := tc_bind (.ref C)
  have hT : (⟨h, g, d, t, os⟩ : Shared).TypeIs (.ref C) "type" := ⟨_, hC, rfl⟩
  refine wpAny_call (codeAny_of_tree ?_)
  show wpAny _ _ (callAny (.ref C) _) _ _ _
  repeat (any_goals (first | assumption | with_reducible refine wpAny_loadPart_at hC ?_ | wp_step))
  refine ⟨rfl, ?_⟩
  refine codeAny_call_builtin_at (Code.quiet_builtin _ (by decide +kernel)) entry_typeCall (wpAny_check_type_call_sub hC (type_called Fn hcB hcA hcN X hC hi hfI hfc hrest fun h' e t' he ht up h1 h2 => ?_))
  exact hq h' e t' he ht up h1 h2
end
end
end Mine
namespace Mine
section
open Sem (wp)
set_option maxHeartbeats 2000000
/-! super().__init__(..) where the next class is the built-in Exception -/
theorem wd_type : typeOf (.builtin "Exception.__init__") = pure (.type "wrapper_descriptor") := by kernel_rfl
theorem wd_slot : Slot "wrapper_descriptor" "__get__" "wrapper_descriptor.__get__" := .of (owner := "wrapper_descriptor") (n := "__get__") (by rw [typeLookup_type, builtinLookup_eq_fast]; kernel_rfl) (by decide +kernel) (by decide +kernel) (by decide +kernel)
    (by first | exact .inl (by decide +kernel) | exact .inr (by decide +kernel)) (by rw [isSubtype_type]; kernel_rfl)
theorem wd_entry : entryFor table "wrapper_descriptor.__get__" = some Builtin.«wrapper_descriptor.__get__» := entryFor_of_tree (by kernel_rfl)
theorem wd_args (a b c : Value) : argsOk "wrapper_descriptor.__get__" ⟨[a, b, c], []⟩ := by unfold argsOk; kernel_rfl
section
variable {prog : Program} {w : World} {M : Model} {A : Around} {E : Value → Shared → Prop} {h : Heap} {g : Array GenState} {d : Drawn} {t : Nat} {os : OsState}
abbrev wrapObj (x : Addr) : Obj := { cls := .type "method-wrapper", data := .fields #[.builtin "Exception.__init__", .ref x] }
theorem super_exc {so D x C : Addr} {ox : Obj} {l₀ l : List Value} {K : Frag} {tk : Tok} {Q : PySem.Fin → Shared → Prop}
    (hso : h.get? so = some { cls := .type "super", dict := none, data := .fields #[.ref D, .ref x, .ref C], slots := #[] }) (hno : Looks (model prog w) h (opaqueClassAbove (.ref C)) none)
    (hC : Looks (model prog w) h (mroOf (.ref C)) l₀) (hl : (l₀.dropWhile (· != .ref D)).drop 1 = l) (X : K.In h)
    (hf : alongIn K "__init__" l = some (some (.builtin "Exception.__init__"))) (hx : h.get? x = some ox) (hxc : ox.cls = .ref C)
    (hsub : Looks (model prog w) h (isSubtype (.ref C) (.type "Exception")) true) (hxC : x ≠ C)
    (hq : Q (.done (.ret (.ref h.objs.size))) ⟨h.push (wrapObj x), g, d, t, os⟩) :
    wpAny (model prog w) A (Builtin.«super.__getattribute__» ⟨[.ref so, .str "__init__" tk], []⟩) Q E ⟨h, g, d, t, os⟩ := by
  have hlk := wd_slot.lookup
  have hwt := wd_type
  have hne : (Value.ref x == Value.ref C) = false := by simp [hxC]
  have hn : ((Str.ofString "__init__") == ("__class__" : Str)) = false := by decide +kernel
  have hTf : (⟨h, g, d, t, os⟩ : Shared).TypeIs (.builtin "Exception.__init__") "wrapper_descriptor" := wd_type
  have hdt : ({ cls := .type "super", dict := none, data := .fields #[.ref D, .ref x, .ref C], slots := #[] } : Obj).data = .fields #[.ref D, .ref x, .ref C] := rfl
  have f0 : (#[.ref D, .ref x, .ref C] : Array Value)[0]? = some (.ref D) := rfl
  have f1 : (#[.ref D, .ref x, .ref C] : Array Value)[1]? = some (.ref x) := rfl
  have f2 : (#[.ref D, .ref x, .ref C] : Array Value)[2]? = some (.ref C) := rfl
  unfold Builtin.«super.__getattribute__»
  repeat (first
    | (with_reducible refine wpAny_field hso hdt f0 ?_) | (with_reducible refine wpAny_field hso hdt f1 ?_) | (with_reducible refine wpAny_field hso hdt f2 ?_)
    | (with_reducible refine ks_wpAny_notOpaque hno ?_)
    | (with_reducible refine Looks.at hC ?_; rw [hl])
    | (refine ks_forIn_along X (fun _ _ => rfl) rfl ?_ hf)
    | (with_reducible refine wpAny_typeOf hTf ?_)
    | (with_reducible refine wpAny_call_entry wd_slot hTf wd_entry ?_ (wd_args _ _ _))
    | (with_reducible refine ⟨_, rfl, ?_⟩)
    | (simp only [hn, hne, Bool.or_false, Bool.false_eq_true, if_false])
    | wp_step
    | dsimp only)
  have e1 : (".".intercalate ("Exception.__init__".cutAt '.').dropLast) = "Exception" := by decide +kernel
  rw [e1, hxc]
  refine hsub.here ?_
  unfold newFields
  repeat (first | (with_reducible refine wpAny_newObj_type ?_ (by size_fits)) | wp_step)
  refine ⟨_, rfl, ?_⟩
  wp_walk
  exact hq
theorem super_exc_method {so D x C : Addr} {ox : Obj} {l₀ l : List Value} {K : Frag} {pl : Sem Bool} {Q : Value × List Value → Shared → Prop}
    (hso : h.get? so = some { cls := .type "super", dict := none, data := .fields #[.ref D, .ref x, .ref C], slots := #[] }) (hno : Looks (model prog w) h (opaqueClassAbove (.ref C)) none)
    (hC : Looks (model prog w) h (mroOf (.ref C)) l₀) (hl : (l₀.dropWhile (· != .ref D)).drop 1 = l) (X : K.In h)
    (hf : alongIn K "__init__" l = some (some (.builtin "Exception.__init__"))) (hx : h.get? x = some ox) (hxc : ox.cls = .ref C)
    (hsub : Looks (model prog w) h (isSubtype (.ref C) (.type "Exception")) true) (hxC : x ≠ C)
    (hq : Q (.ref h.objs.size, []) ⟨h.push (wrapObj x), g, d, t + 1, os⟩) :
    wpAny (model prog w) A (getMethod (.ref so) "__init__" pl) Q E ⟨h, g, d, t, os⟩ := by
  have hlk := F.ks_slot_super_ga.lookup
  have hcan := F.ks_canon_super_ga
  have hT : ∀ t', (⟨h, g, d, t', os⟩ : Shared).TypeIs (.ref so) "super" := fun _ => ⟨_, hso, rfl⟩
  unfold getMethod
  refine wpAny_bind (wpAny_specialOf (hT _) hlk ?_)
  show wpAny _ _ (if (Manifest.canonical "super.__getattribute__" != "object.__getattribute__") = true then _ else _) _ _ _
  rw [if_pos hcan]
  unfold getAttr getAttrBy
  refine wpAny_bind (wpAny_bind (wpAny_mkText (wpAny_holding (wpAny_bind (wpAny_typeOf (hT _) (wpAny_bind (wpAny_of_eq hlk ?_)))))))
  show wpAny _ _ (getAttrByItsOwn (.ref so) (.str "__init__" t) (.type "super") (.builtin "super.__getattribute__") true false) _ _ _
  unfold getAttrByItsOwn hookBefore callGetattribute boundAndCalled
  refine wpAny_bind (wpAny_of_eq (show (if onTheHeap (.type "super") then typeLookup (.type "super") "__getattr__" else pure none) = pure none from rfl) ?_)
  refine wpAny_bind (wpAny_attempt (wpAny_holding ?_))
  show wpAny _ _ (bindSpecial (.builtin "super.__getattribute__") (.ref so) >>= _) _ _ _
  refine wpAny_bind (wpAny_of_eq (F.ks_slot_super_ga.bind _) ?_)
  refine wpAny_mono (Q := fun v s' => v = .ref h.objs.size ∧ s' = ⟨h.push (wrapObj x), g, d, t + 1, os⟩) (E := fun _ _ => False)
    (wpAny_call_entry F.ks_slot_super_ga (hT _) F.ks_entry_super_ga (super_exc hso hno hC hl X hf hx hxc hsub hxC ⟨_, rfl, rfl, rfl⟩) (F.ks_gaArgs_super _ _)) (fun v s' hv => ?_) fun _ _ z => z.elim
  obtain ⟨rfl, rfl⟩ := hv
  exact wpAny_pure (wpAny_pure hq)
/-- the built-in's own part: the arguments are laid down anew -/
theorem call_wrap {q x C t₀ N : Addr} {a : Value} {dd : Option Addr} {Q : Value → Shared → Prop} {nm qn : Str} {bs bm : List Value} {hdct : Bool} {sn : List Str} {sub : List Value} {ab : Bool} {col : Option Bool} {dc : Option Addr} {k0 k1 k2 k3 k5 : Option Value} {newId : String}
    (hq : h.get? q = some (wrapObj x)) (hx : h.get? x = some { cls := .ref C, dict := dd, data := .fields #[.ref t₀, .none, .none, .none, .bool false, .none] })
    (hC : h.get? C = some (excClassObj nm qn C N bs bm hdct sn sub ab col dc k0 k1 k2 k3 k5 newId))
    (k : ∀ h', h' = (h.push { cls := .type "tuple", data := .seq #[a] }).update x (Obj.mapFields (·.setIfInBounds 0 (.ref h.objs.size))) → Q .none ⟨h', g, d, t, os⟩) :
    wpAny (model prog w) A (call (.ref q) [a]) Q E ⟨h, g, d, t, os⟩ := by
  have Fx := PySem.F.excCall_Exception
  refine wpAny_call (codeAny_of_tree ?_)
  show wpAny _ _ (callAny (.ref q) _) _ _ _
  unfold callAny
  refine wpAny_bind (wpAny_load hq ?_)
  wp_walk
  refine ⟨Code.quiet_builtin _ (by decide +kernel), codeAny_builtin Fx.initEntry ?_⟩
  show wpAny _ _ (Builtin.«BaseException.__init__» ⟨[.ref x, a], []⟩) _ _ _
  have hx' : (h.push { cls := .type "tuple", data := .seq #[a] }).get? x = some { cls := .ref C, dict := dd, data := .fields #[.ref t₀, .none, .none, .none, .bool false, .none] } := Heap.get?_push_of_some _ hx
  unfold Builtin.«BaseException.__init__»
  wp_walk
  exact k _ rfl
end
end
end Mine
namespace Mine
section
open Sem (wp)
set_option maxHeartbeats 1000000
/-! an attribute is laid on an own exception -/
theorem refuse_exc (self : Value) : refuseLoop self "__setattr__" [.type "Exception", .type "BaseException", .type "object"] = pure () := by kernel_rfl
section
variable {prog : Program} {w : World} {A : Around} {E : Value → Shared → Prop} {R : Result → Shared → Prop} {s : Shared} {K : Frag} {x C L : Addr} {h₀ : Heap} {m : Str → Option Value} {ox : Obj} {od : Option Obj} {cd : ClassData} {name : Str} {v : Value} {tk : Tok}
theorem exc_osa_open (X : K.In s.heap) (I : InstAt s.heap x ox C od) (hc : clsIn K C = some cd) (hr : refuseLoop (.ref x) "__setattr__" cd.mro = pure ()) (ho : cd.mro.contains (.type "object") = true) (hne : cd.mro.isEmpty = false)
    (ha : findIn K (.ref C) name = some none)
    (h : wpAny (model prog w) A.in1 (Builtin.ObjectAttr.storeInOwnDict (.ref x) (.ref C) (.str name tk) name v false)
      (fun fin s' => match fin with | .done f => R (.ok f) s' | .again c' => c'.quiet = true ∧ codeAny (model prog w) A c' R s') (fun e s' => R (.error e) s') s) :
    codeAny (model prog w) A (.call (.builtin "object.__setattr__") ⟨[.ref x, .str name tk, v], []⟩) R s := by
  have SF := PySem.F.store_object
  have sub : Looks (model prog w) s.heap (isInstance (.ref x) (.type "object")) true := I.type.andThen (looks_mroIn X (by unfold mroIn; rw [hc, Option.bind_some, if_neg (by rw [hne]; decide), ho]))
  refine codeAny_call_builtin SF.slot.plain SF.entry (@check_slot (model prog w) _ _ s "object.__setattr__" "object" "__setattr__" (.ref x) [.str name tk, v] [] _ SF.kind SF.split sub (SF.args (.ref x) (.str name tk) v) ?_)
  have hm : Looks (model prog w) s.heap (mroOf (.ref C)) cd.mro := (looks_clsIn X hc).andThen .now
  rw [osa_eq, refuse_eq]
  refine wpAny_bind (wpAny_bind (I.type.here (wpAny_bind (hm.here ?_))))
  rw [hr]
  refine wpAny_pure (wpAny_bind (I.type.here (wpAny_bind ((looks_findIn X ha).here (wpAny_bind ?_)))))
  exact wpAny_pure h
/-- a store into a dict of the ledger -/
theorem store_in {dx : Addr} {pre post : List (Addr × Obj)} {es es' : List DictEntry} {n n' : Nat} {Q : PySem.Fin → Shared → Prop} (F : Fr h₀ L s.heap m) (N : News h₀ L s.heap (pre ++ (dx, dictOf es n) :: post))
    (hl : (getL name es).isSome = true) (h1 : ∀ p ∈ pre, p.1 ≠ dx) (h2 : ∀ p ∈ post, p.1 ≠ dx) (e : (putL name (PyData.keyHash w.params name) (.str name s.toks) v es, putN name es n) = (es', n')) (hz : es'.length ≤ 1000)
    (h : ∀ h', Fr h₀ L h' m → News h₀ L h' (pre ++ (dx, dictOf es' n') :: post) → Q (.done (.ret .none)) { s with heap := h', toks := s.toks + 1 }) :
    wpAny (model prog w) A (Builtin.ObjectAttr.storeInDict dx (.str name tk) name v) Q E s := by
  obtain ⟨e1, e2⟩ := Prod.mk.inj e
  have e3 : Obj.putName name (PyData.keyHash w.params name) (.str name s.toks) v (dictOf es n) = dictOf es' n' := by rw [putName_dict, e1, e2]
  obtain ⟨U1, U2⟩ := news_upd (f := Obj.putName name (PyData.keyHash w.params name) (.str name s.toks) v) F N h1 h2 e3 rfl
  have D := (N (dx, dictOf es n) (by simp)).1
  have D' := (U2 (dx, dictOf es' n') (by simp)).1
  unfold Builtin.ObjectAttr.storeInDict
  refine wpAny_bind (wpAny_pure (wpAny_bind ?_))
  unfold nsSet
  refine wpAny_bind (wpAny_bind (wpAny_askSetting (wpAny_pure (wpAny_bind (wpAny_mkText (wpAny_bind (wpAny_loadPart D ?_)))))))
  unfold getL at hl
  dsimp only [dictOf]
  have c : (!es.toArray.any (·.key.isStr name) && es.toArray.any (·.refKey)) = false := by
    rw [← Array.any_toList, ← Array.any_toList]
    split at hl
    · rename_i en he
      rw [List.any_eq_true.mpr ⟨en, List.mem_of_find?_eq_some he, List.find?_some he⟩]; rfl
    · split at hl
      · cases hl
      · rename_i z; rw [Bool.not_eq_true] at z; rw [z, Bool.and_false]
  rw [aRefKeyMayBeTheName_at, c]
  refine wpAny_updatePart D ?_
  refine wpAny_bind (wpAny_lookBehind D' (pastItsLine_dict (by rw [List.size_toArray, sizeLine_eq]; omega)) ?_)
  exact wpAny_pure (h _ U1 U2)
theorem exc_set_old {dx : Addr} {pre post : List (Addr × Obj)} {es es' : List DictEntry} {n n' : Nat} {Q : Unit → Shared → Prop} (F : Fr h₀ L s.heap m) (X₀ : K.In h₀) (N : News h₀ L s.heap (pre ++ (dx, dictOf es n) :: post)) (I : InstAt s.heap x ox C od) (hd : ox.dict = some dx)
    (hs : findIn K (.ref C) "__setattr__" = some (some (.builtin "object.__setattr__"))) (hc : clsIn K C = some cd) (hr : refuseLoop (.ref x) "__setattr__" cd.mro = pure ()) (ho : cd.mro.contains (.type "object") = true) (hne : cd.mro.isEmpty = false)
    (hh : cd.hasDict = true) (ha : findIn K (.ref C) name = some none)
    (hl : (getL name es).isSome = true) (h1 : ∀ p ∈ pre, p.1 ≠ dx) (h2 : ∀ p ∈ post, p.1 ≠ dx) (e : (putL name (PyData.keyHash w.params name) (.str name (s.toks + 1)) v es, putN name es n) = (es', n')) (hz : es'.length ≤ 1000)
    (h : ∀ h', Fr h₀ L h' m → News h₀ L h' (pre ++ (dx, dictOf es' n') :: post) → Q () { s with heap := h', toks := s.toks + 2 }) :
    wpAny (model prog w) A (setAttr (.ref x) name v) Q E s := by
  have X := X₀.keeps F.keep
  refine set_plain X I hs (exc_osa_open (s := { s with toks := s.toks + 1 }) X I hc hr ho hne ha ?_)
  obtain ⟨hx, hcl, hn, -⟩ := I
  obtain ⟨oc, odi, oda, osl⟩ := ox
  dsimp only at hcl hd
  subst hcl hd
  unfold Builtin.ObjectAttr.storeInOwnDict
  refine wpAny_bind (wpAny_pure (wpAny_bind (wpAny_bind (wpAny_loadPart hx (wpAny_bind (Looks.here (s := { s with toks := s.toks + 1 }) (looks_clsIn X hc) ?_))))))
  rw [hh]
  refine wpAny_pure (a := some dx) ?_
  exact store_in (s := { s with toks := s.toks + 1 }) F N hl h1 h2 e hz fun h' F' N' => h h' F' N'
theorem exc_set_new {pre post : List (Addr × Obj)} {es' : List DictEntry} {n' : Nat} {Q : Unit → Shared → Prop} (F : Fr h₀ L s.heap m) (X₀ : K.In h₀) (N : News h₀ L s.heap (pre ++ (x, ox) :: post)) (h1 : ∀ p ∈ pre, p.1 ≠ x) (h2 : ∀ p ∈ post, p.1 ≠ x)
    (I : InstAt s.heap x ox C none) (hd : ox.dict = none) {vs : Array Value} (hda : ox.data = .fields vs) (hfr : ∀ dd : Option Addr, ({ ox with dict := dd } : Obj).isFreed = false)
    (hs : findIn K (.ref C) "__setattr__" = some (some (.builtin "object.__setattr__"))) (hc : clsIn K C = some cd) (hr : refuseLoop (.ref x) "__setattr__" cd.mro = pure ()) (ho : cd.mro.contains (.type "object") = true) (hne : cd.mro.isEmpty = false)
    (hh : cd.hasDict = true) (ha : findIn K (.ref C) name = some none)
    (e : (putL name (PyData.keyHash w.params name) (.str name (s.toks + 1)) v [], putN name [] 0) = (es', n')) (hz : es'.length ≤ 1000)
    (h : ∀ h' d, (∀ p ∈ pre ++ (x, ox) :: post, @LT.lt Nat _ p.1 d) → Fr h₀ L h' m → News h₀ L h' ((d, dictOf es' n') :: (pre ++ (x, { ox with dict := some d }) :: post)) → Q () { s with heap := h', toks := s.toks + 2 }) :
    wpAny (model prog w) A (setAttr (.ref x) name v) Q E s := by
  have X := X₀.keeps F.keep
  refine set_plain X I hs (exc_osa_open (s := { s with toks := s.toks + 1 }) X I hc hr ho hne ha ?_)
  obtain ⟨hx, hcl, hn, -⟩ := I
  have lt : ∀ p ∈ pre ++ (x, ox) :: post, @LT.lt Nat _ p.1 s.heap.objs.size := fun p hp => Heap.lt_size (N p hp).1
  have N1 := news_pushed (D := s.heap.objs.size) (o := { cls := .type "dict", data := .dict #[] }) (h' := s.heap.push { cls := .type "dict", data := .dict #[] }) F N (fun b o z => Heap.get?_push_of_some _ z) (Heap.get?_push_size _ rfl) rfl
  have F1 := F.push { cls := .type "dict", data := .dict #[] }
  have N1' : News h₀ L (s.heap.push { cls := .type "dict", data := .dict #[] }) (((s.heap.objs.size, ({ cls := .type "dict", data := .dict #[] } : Obj)) :: pre) ++ (x, ox) :: post) := N1
  have nx : ∀ p ∈ (s.heap.objs.size, ({ cls := .type "dict", data := .dict #[] } : Obj)) :: pre, p.1 ≠ x := by
    intro p hp
    rcases List.mem_cons.mp hp with rfl | hp
    · exact Nat.ne_of_gt (lt (x, ox) (by simp))
    · exact h1 p hp
  obtain ⟨F2, N2⟩ := news_upd (f := fun o => { o with dict := some s.heap.objs.size }) F1 N1' nx h2 rfl (hfr _)
  obtain ⟨oc, odi, oda, osl⟩ := ox
  dsimp only at hcl hd hda
  subst hcl hd hda
  unfold Builtin.ObjectAttr.storeInOwnDict
  refine wpAny_bind (wpAny_pure (wpAny_bind (wpAny_bind (wpAny_loadPart hx (wpAny_bind (Looks.here (s := { s with toks := s.toks + 1 }) (looks_clsIn X hc) ?_))))))
  rw [hh]
  rw [if_neg (by decide)]
  refine wpAny_bind (wpAny_alloc (wpAny_bind (wpAny_update (Heap.get?_push_of_some _ hx) (wpAny_pure ?_))))
  refine store_in (pre := []) (post := pre ++ (x, _) :: post) (s := { s with heap := (s.heap.push { cls := .type "dict", data := .dict #[] }).update x _, toks := s.toks + 1 }) F2 N2 rfl (fun _ hp => absurd hp List.not_mem_nil) ?_ e hz fun h' F' N' => ?_
  · intro p hp
    rcases List.mem_append.mp hp with hp | hp
    · exact Nat.ne_of_lt (lt p (List.mem_append_left _ hp))
    rcases List.mem_cons.mp hp with rfl | hp
    · exact Nat.ne_of_lt (lt (x, ⟨.ref C, none, .fields vs, osl⟩) (by simp))
    · exact Nat.ne_of_lt (lt p (by simp [hp]))
  · exact h h' _ lt F' N'
end
end
end Mine
namespace Mine
section
set_option maxHeartbeats 1000000
/-! what the written part says of the classes of the faults -/
abbrev mro81 : List Value := [.ref 81, .ref 69, .ref 40, .type "Exception", .type "BaseException", .type "object"]
theorem cd81 (P : Params) : ∃ cd, clsIn (hd.heap_39 P) 81 = some cd ∧ cd.mro = mro81 ∧ cd.hasDict = true := by
  have h : ((clsIn (hd.heap_39 P) 81).any fun cd => cd.mro == mro81 && cd.hasDict) = true := by kernel_rfl
  obtain ⟨cd, e, h⟩ := any_some h
  rw [Bool.and_eq_true, beq_iff_eq] at h
  exact ⟨cd, e, h.1, h.2⟩
theorem f81_set (P : Params) : findIn (hd.heap_39 P) (.ref 81) "__setattr__" = some (some (.builtin "object.__setattr__")) := by kernel_rfl
theorem f81_get (P : Params) : findIn (hd.heap_39 P) (.ref 81) "__getattribute__" = some (some (.builtin "BaseException.__getattribute__")) := by kernel_rfl
theorem f81_what (P : Params) : findIn (hd.heap_39 P) (.ref 81) "what" = some none := by kernel_rfl
theorem f81_spot (P : Params) : findIn (hd.heap_39 P) (.ref 81) "spot" = some none := by kernel_rfl
theorem f81_init (P : Params) : findIn (hd.heap_39 P) (.ref 81) "__init__" = some (some (.ref 59)) := by kernel_rfl
theorem f81_sup (P : Params) : ks_superIn (hd.heap_39 P) 81 40 "__init__" = some (some (.builtin "Exception.__init__")) := by kernel_rfl
theorem f81_exc (P : Params) : mroIn (hd.heap_39 P) 81 (.type "Exception") = some true := by kernel_rfl
theorem f_third (P : Params) : nsIn (hd.heap_39 P) cStatics "thirdparty.any" = some none := by kernel_rfl
theorem fn59 (P : Params) : ∃ o, (hd.heap_39 P).lookup 59 = some o ∧ o.cls = .type "function" := by
  have h : (((hd.heap_39 P).lookup 59).any fun o => o.cls == .type "function") = true := by kernel_rfl
  obtain ⟨o, e, h⟩ := any_some h
  exact ⟨o, e, eq_of_beq h⟩
theorem cls81 {P : Params} {h : Heap} (X : (hd.heap_39 P).In h) : ∃ nm q N bs hdct sn sub ab col dd k0 k1 k2 k3 k5, h.get? 81 = some (excClassObj nm q 81 N bs mro81.tail hdct sn sub ab col dd k0 k1 k2 k3 k5 "Exception.__new__") := by
  have hh : (((hd.heap_39 P).lookup 81).any fun o => match o with
    | ⟨.type "type", _, .cls cd, sl⟩ => cd.mro == mro81 && !cd.hasDel && (match sl.toList with | [_, _, _, _, some (.builtin n), _] => n == "Exception.__new__" | _ => false)
    | _ => false) = true := by kernel_rfl
  obtain ⟨o, e, hh⟩ := any_some hh
  split at hh
  · rename_i dd cd sl
    rw [Bool.and_eq_true, Bool.and_eq_true, beq_iff_eq, Bool.not_eq_true'] at hh
    obtain ⟨⟨hm, hdel⟩, hs⟩ := hh
    split at hs
    · rename_i k0 k1 k2 k3 n k5 hsl
      have hn := eq_of_beq hs
      subst hn
      obtain ⟨nm, bs, mro, ns, qn, hd', sn, sub, ab, col, del⟩ := cd
      dsimp only at hm hdel
      subst hm hdel
      have hsl' : sl = #[k0, k1, k2, k3, some (.builtin "Exception.__new__"), k5] := by
        obtain ⟨l⟩ := sl
        simp only at hsl
        rw [hsl]
      subst hsl'
      exact ⟨_, _, _, _, _, _, _, _, _, _, _, _, _, _, _, X _ _ e⟩
    · cases hs
  · cases hh
end
end Mine
namespace Mine
section
set_option maxHeartbeats 1000000
abbrev excO (t : Addr) (dd : Option Addr) : Obj := { cls := .ref 81, dict := dd, data := .fields #[.ref t, .none, .none, .none, .bool false, .none] }
theorem inst_exc0 {h₀ h : Heap} {L x t : Addr} {news : Led} (N : News h₀ L h news) (h1 : (x, excO t none) ∈ news) : InstAt h x (excO t none) 81 none := ⟨(N _ h1).1, rfl, rfl, trivial⟩
theorem inst_exc1 {h₀ h : Heap} {L x t d : Addr} {od : Obj} {news : Led} (N : News h₀ L h news) (h1 : (x, excO t (some d)) ∈ news) (h2 : (d, od) ∈ news) : InstAt h x (excO t (some d)) 81 (some od) := ⟨(N _ h1).1, rfl, rfl, (N _ h2).1⟩
theorem fr_keeps {h₀ h h' : Heap} {L : Addr} {m : Str → Option Value} (F : Fr h₀ L h m) (k : ∀ b o, h.get? b = some o → h'.get? b = some o) : Fr h₀ L h' m := by
  obtain ⟨oL, es, ep, hL, r⟩ := F.ns
  exact ⟨⟨oL, es, ep, k _ _ hL, r⟩, fun b o e => k b o (F.keep b o e), F.above⟩
theorem news_keeps {h₀ h h' : Heap} {L : Addr} {news : Led} (N : News h₀ L h news) (k : ∀ b o, h.get? b = some o → h'.get? b = some o) : News h₀ L h' news := fun p hp => ⟨k _ _ (N p hp).1, (N p hp).2⟩
theorem news_add {h₀ h h' : Heap} {L a : Addr} {m : Str → Option Value} {o : Obj} {news : Led} (F : Fr h₀ L h m) (N : News h₀ L h' news) (ha : @LE.le Nat _ h.objs.size a) (ho : h'.get? a = some o) : News h₀ L h' ((a, o) :: news) := by
  intro p hp
  rcases List.mem_cons.mp hp with rfl | hp
  · refine ⟨ho, fun q => ?_, ?_⟩
    · obtain ⟨oL, es, ep, hL, r⟩ := F.ns
      have := Heap.lt_size hL
      rw [← q] at this
      exact absurd this (Nat.not_lt.mpr ha)
    · cases z : h₀.get? a with
      | none => rfl
      | some o' => exact absurd (Heap.lt_size (F.keep _ _ z)) (Nat.not_lt.mpr ha)
  · exact N p hp
section
variable {prog : Program} {w : World} {A : Around} {E : Value → Shared → Prop} {s : Shared} {x L : Addr} {h₀ : Heap} {m : Str → Option Value} {news : Led} {g : Obj → Led}
theorem looks_exc {P : Params} {M : Model} {h : Heap} (X : (hd.heap_39 P).In h) : Looks M h (isSubtype (.ref 81) (.type "Exception")) true := looks_mroIn X (f81_exc P)
theorem super_meth {D so t0 : Addr} {dd : Option Addr} {pl : Sem Bool} {Q : Value × List Value → Shared → Prop} (F : Fr h₀ L s.heap m) (X₀ : (hd.heap_39 w.params).In h₀) (N : News h₀ L s.heap news) (hso : (so, ks_superObj D x 81) ∈ news) (hx : (x, excO t0 dd) ∈ news)
    (hm : ks_superIn (hd.heap_39 w.params) 81 D "__init__" = some (some (.builtin "Exception.__init__")))
    (h : ∀ q h', Fr h₀ L h' m → News h₀ L h' ((q, wrapObj x) :: news) → (∀ p ∈ news, p.1 < q) → Q (.ref q, []) { s with heap := h', toks := s.toks + 1 }) : wpAny (model prog w) A (getMethod (.ref so) "__init__" pl) Q E s := by
  have X := X₀.keeps F.keep
  obtain ⟨cd, hc, hmro, -⟩ := cd81 w.params
  obtain ⟨hh, gg, d, t, os⟩ := s
  have hx81 : x ≠ 81 := by
    rintro rfl
    obtain ⟨nm, q, NN, bs, hdct, sn, sub, ab, col, dd', k0, k1, k2, k3, k5, hC⟩ := cls81 X
    rw [(N _ hx).1] at hC
    cases hC
  unfold ks_superIn at hm
  rw [hc] at hm
  refine super_exc_method (N _ hso).1 (looks_opaque X (f_third _)) (l₀ := cd.mro) ?_ rfl X hm (N _ hx).1 rfl (looks_exc X) hx81 ?_
  · exact fun A Q E s k q => wpAny_bind ((looks_clsIn X hc) A _ E s k (wpAny_pure q))
  · obtain ⟨F', N', l'⟩ := ks_newsPush (s := ⟨hh, gg, d, t, os⟩) (o := wrapObj x) F N rfl (Heap.get?_push_at rfl rfl) (fun b o e => Heap.get?_push_of_some _ e)
    exact h _ _ F' N' l'
theorem wrap_call {q t0 : Addr} {dd : Option Addr} {a : Value} {Q : Value → Shared → Prop} (F : Fr h₀ L s.heap m) (X₀ : (hd.heap_39 w.params).In h₀) (N : News h₀ L s.heap news) (hq : (q, wrapObj x) ∈ news) (U : UpdF x (excO t0 dd) news g)
    (h : ∀ t' h', Fr h₀ L h' m → News h₀ L h' ((t', tupOf #[a] 0) :: g (excO t' dd)) → (∀ p ∈ news, p.1 < t') → Q .none { s with heap := h' }) : wpAny (model prog w) A (call (.ref q) [a]) Q E s := by
  have X := X₀.keeps F.keep
  obtain ⟨nm, qn, NN, bs, hdct, sn, sub, ab, col, dd', k0, k1, k2, k3, k5, hC⟩ := cls81 X
  obtain ⟨pre, post, rfl, hg, ha, hb⟩ := U.split
  have hx := (N (x, excO t0 dd) (by simp)).1
  obtain ⟨hh, gg, d, t, os⟩ := s
  refine call_wrap (N _ hq).1 hx hC fun h' e => ?_
  subst e
  have lt : ∀ p ∈ pre ++ (x, excO t0 dd) :: post, @LT.lt Nat _ p.1 hh.objs.size := fun p hp => Heap.lt_size (N p hp).1
  obtain ⟨F1, N1, l1⟩ := ks_newsPush (s := ⟨hh, gg, d, t, os⟩) (o := tupOf #[a] 0) F N rfl (Heap.get?_push_at rfl rfl) (fun b o e => Heap.get?_push_of_some _ e)
  have N1' : News h₀ L (hh.push (tupOf #[a] 0)) (((hh.objs.size, tupOf #[a] 0) :: pre) ++ (x, excO t0 dd) :: post) := N1
  have nx : ∀ p ∈ (hh.objs.size, tupOf #[a] 0) :: pre, p.1 ≠ x := by
    intro p hp
    rcases List.mem_cons.mp hp with rfl | hp
    · exact Nat.ne_of_gt (lt (x, excO t0 dd) (by simp))
    · exact ha p hp
  obtain ⟨F2, N2⟩ := news_upd (o' := excO hh.objs.size dd) (f := Obj.mapFields (·.setIfInBounds 0 (.ref hh.objs.size))) F1 N1' nx hb rfl rfl
  refine h _ _ F2 ?_ l1
  rw [hg]
  exact N2
abbrev whatE (P : Params) (k : Tok) (v : Value) : DictEntry := ⟨PyData.keyHash P (Str.ofString "what"), .str (Str.ofString "what") k, v⟩
abbrev spotE (P : Params) (k : Tok) (v : Value) : DictEntry := ⟨PyData.keyHash P (Str.ofString "spot"), .str (Str.ofString "spot") k, v⟩
theorem set_what {t0 : Addr} {v : Value} {Q : Unit → Shared → Prop} (F : Fr h₀ L s.heap m) (X₀ : (hd.heap_39 w.params).In h₀) (N : News h₀ L s.heap news) (U : UpdF x (excO t0 none) news g)
    (h : ∀ h' d, Fr h₀ L h' m → News h₀ L h' ((d, dictOf [whatE w.params (s.toks + 1) v] 1) :: g (excO t0 (some d))) → (∀ p ∈ news, p.1 < d) → Q () { s with heap := h', toks := s.toks + 2 }) :
    wpAny (model prog w) A (setAttr (.ref x) "what" v) Q E s := by
  obtain ⟨cd, hc, hmro, hh⟩ := cd81 w.params
  obtain ⟨pre, post, rfl, hg, ha, hb⟩ := U.split
  have I := inst_exc0 N (x := x) (t := t0) (by simp)
  refine exc_set_new F X₀ N ha hb I rfl rfl (fun dd => rfl) (f81_set _) hc (by rw [hmro, refuseLoop_ref, refuseLoop_ref, refuseLoop_ref]; exact refuse_exc _) (by rw [hmro]; decide +kernel) (by rw [hmro]; rfl) hh (f81_what _) (es' := [whatE w.params (s.toks + 1) v]) (n' := 1) rfl (by simp) fun h' d lt F' N' => ?_
  exact h h' d F' (by rw [hg]; exact N') lt
theorem set_spot {t0 d : Addr} {v u : Value} {k : Tok} {Q : Unit → Shared → Prop} (F : Fr h₀ L s.heap m) (X₀ : (hd.heap_39 w.params).In h₀) (N : News h₀ L s.heap news) (hx : (x, excO t0 (some d)) ∈ news) (U : UpdF d (dictOf [whatE w.params k u] 1) news g)
    (h : ∀ h', Fr h₀ L h' m → News h₀ L h' (g (dictOf [whatE w.params k u, spotE w.params (s.toks + 1) v] 2)) → Q () { s with heap := h', toks := s.toks + 2 }) :
    wpAny (model prog w) A (setAttr (.ref x) "spot" v) Q E s := by
  obtain ⟨cd, hc, hmro, hh⟩ := cd81 w.params
  obtain ⟨pre, post, rfl, hg, ha, hb⟩ := U.split
  have I := inst_exc1 N hx (d := d) (od := dictOf [whatE w.params k u] 1) (by simp)
  refine exc_set_old F X₀ N I rfl (f81_set _) hc (by rw [hmro, refuseLoop_ref, refuseLoop_ref, refuseLoop_ref]; exact refuse_exc _) (by rw [hmro]; decide +kernel) (by rw [hmro]; rfl) hh (f81_spot _) (es := [whatE w.params k u]) (n := 1) (by rfl) ha hb (es' := [whatE w.params k u, spotE w.params (s.toks + 1) v]) (n' := 2) ?_ (by simp) fun h' F' N' => ?_
  · rfl
  · exact h h' F' (by rw [hg]; exact N')
def WrapP (q x : Addr) (h : Heap) : Prop := h.get? q = some (wrapObj x)
theorem wrapP {h : Heap} {q : Addr} (N : News h₀ L h news) (hm : (q, wrapObj x) ∈ news) : WrapP q x h := (N _ hm).1
theorem callWith_W {M : Model} {pos : Pos} {q : Addr} {first : List Value} {env : Env} {e : PySem.Expr} {rest : List PySem.Expr} {Q : Value → Shared → Prop} (_N : News h₀ L s.heap news) (_hm : (q, wrapObj x) ∈ news)
    (h : wpAny M A (spliced (backTo pos (starEach (e :: rest) env))) (fun vs s₁ => WrapP q x s₁.heap ∧ wpAny M A (call (.ref q) (first ++ vs)) Q E s₁) E s)
    (he : starEach (e :: rest) env = (false, eval e env) :: starEach rest env := by rfl) (hplain : (backTo pos (starEach rest env)).any (·.1) = false := by rfl) :
    wpAny M A (callWith pos (.ref q) first (backTo pos (starEach (e :: rest) env)) []) Q E s := by
  rw [he] at h ⊢
  exact callWith_of (P := WrapP q x) (by show ((false || (backTo pos (starEach rest env)).any (·.1)) || false) = false; rw [hplain]; rfl)
    (fun hh X => ⟨.machine, .inr (.inl rfl), (Looks.ld (part := none) X).andThen .now⟩) (evalArgs_plain h)
end
end
end Mine
namespace Mine
section
theorem fresh_ExcI : True := by w_top off; trivial
set_option maxHeartbeats 1000000
local macro_rules | `(tactic| k_inst) => `(tactic| first | (refine' inst_exc0 ?N ?h1; (case N => k_asm); (case h1 => k_mem)) | (refine' inst_exc1 ?N ?h1 ?h2; (case N => k_asm); (case h1 => k_mem); (case h2 => k_mem)))
local macro_rules | `(tactic| walk_at "getMethod ref") => `(tactic| (k_here; k_dflt (refine' super_meth ?F ?X ?N ?m1 ?m2 ?sup ?_; (case F => k_asm); (case X => k_asm); (case N => k_asm); (case m1 => k_mem); (case m2 => k_mem); (case sup => exact f81_sup _)); intro q' h' F' N' l1; (try k_lt l1)))
local macro_rules | `(tactic| walk_at "call ref") => `(tactic| (k_here; k_dflt (first
  | (refine' wrap_call ?F ?X ?N ?m1 ?U ?_; (case F => k_asm); (case X => k_asm); (case N => k_asm); (case m1 => k_mem); (case U => k_updF); intro t' h' F' N' l1; (try dsimp only at N'); (try k_lt l1))
  | (refine' call_meth ?k1 ?k2 ?_; (case k1 => k_asm); (case k2 => k_mem); refine' ks_code_super ?k1 ?k2 ?k3 ?k4 ?k5 ?kA ?kF ?kK ?k6 ?k7 ?k8 ?k9 ?kB ?_ ?c1 ?c2 ?c3 ?c4; (case kA => exact rfl); (case kF => exact rfl); (case kK => exact rfl); (case k1 => k_asm); (case k2 => k_asm); (case k3 => k_asm); (case k4 => k_asm); (case k5 => k_asm); (case k6 => k_is); (case k7 => k_is); (case k8 => ktr_room); (case k9 => exact BindsTo.of_eq rfl); (case kB => exact locs rfl); (case c1 => decide); (case c2 => exact rfl); (case c3 => exact rfl); (case c4 => exact rfl); intro g' L' h' FG' F' N' B' X' T' l1; (try k_lt l1); (try dsimp only); (try k_fold)))))
local macro_rules | `(tactic| walk_at "setAttr ref") => `(tactic| (k_here; k_dflt (first
  | (refine' set_what ?F ?X ?N ?U ?_; (case F => k_asm); (case X => k_asm); (case N => k_asm); (case U => k_updF); intro h' d' F' N' l1; (try dsimp only at N'); (try k_lt l1))
  | (refine' set_spot ?F ?X ?N ?m1 ?U ?_; (case F => k_asm); (case X => k_asm); (case N => k_asm); (case m1 => k_mem); (case U => k_updF); intro h' F' N'; (try dsimp only at N')))))
local macro_rules | `(tactic| walk_at "callWith ref") => `(tactic| (k_here; k_dflt (refine' callWith_W ?N ?m ?_; (case N => k_asm); (case m => k_mem); k_whole)))
local macro_rules | `(tactic| walk_at "WrapP") => `(tactic| (k_here; k_dflt (refine' wrapP ?N ?m; (case N => k_asm); (case m => k_mem))))
local macro_rules | `(tactic| k_all) => `(tactic| assumption)
local macro_rules | `(tactic| walk_at "own lt_of") => `(tactic| (first | assumption | (rename _ ∧ _ => nn; with_reducible first | exact nn.1 | exact nn.2.1 | exact nn.2.2 | exact nn.2.2.1 | exact nn.2.2.2 | exact nn.2.2.2.1 | exact nn.2.2.2.2 | exact nn.2.2.2.2.1 | exact nn.2.2.2.2.2)))
local macro_rules | `(tactic| walk_at "own lt_deep") => `(tactic| (rename _ ∧ _ => nn; with_reducible first | exact nn.1 | exact nn.2.1 | exact nn.2.2.1 | exact nn.2.2.2.1 | exact nn.2.2.2.2.1 | exact nn.2.2.2.2.2.1 | exact nn.2.2.2.2.2.2.1 | exact nn.2.2.2.2.2.2.2.1))
def FaultPost (w : World) (wh : Str) (tw tp : Tok) (sp : Int) (pre : Led) (v : Value) (n' : Led) : Prop :=
  ∃ e d t kw ks, v = .ref e ∧ n' = (e, excO t (some d)) :: (d, dictOf [whatE w.params kw (.str wh tw), spotE w.params ks (.int sp tp)] 2) :: pre ∧ (∀ p ∈ pre, p.1 ≠ e) ∧ @Ne Nat d e
theorem fault_made (w : World) (mean : ExcName → Option Value) (mg mb : Str → Option Value) (wh : Str) (tw tp : Tok) (sp : Int) (pre : Led) :
   Spec w mean mg mb 81 [.str wh tw, .int sp tp] pre 20 60 (FaultPost w wh tw tp sp pre) := by
  unfold Spec
  k_fill
  intro dp un gd cn cs a ccd cl outer A₀ base h₀ L m s Q E B F X N T hk hd hu hret
  have XX := X.keeps F.keep
  obtain ⟨nm, qn, NN, bs, hdct, sn, sub, ab, col, dd', k0, k1, k2, k3, k5, hC⟩ := cls81 XX
  obtain ⟨o59, hl59, hc59⟩ := fn59 w.params
  have lt : ∀ p ∈ pre, @LT.lt Nat _ p.1 s.heap.objs.size := fun p hp => Heap.lt_size (N p hp).1
  refine exc_called PySem.F.excBase_Exception (by decide +kernel) (by decide +kernel) (by decide +kernel) XX hC (f81_init _) (XX _ _ hl59) hc59 (by rw [sizeLine_eq]; show 2 ≤ 16777216; decide) fun h1 e t0 he ht up ho1 ho2 => ?_
  have F1 := fr_keeps F up
  have N1 : News h₀ L h1 ((e, excO t0 none) :: pre) := news_add F (news_keeps N up) (by rw [he]; exact Nat.le_succ _) ho1
  have hoff : ∀ p ∈ pre, p.1 ≠ e := fun p hp => Nat.ne_of_lt (Nat.lt_of_lt_of_le (lt p hp) (by rw [he]; exact Nat.le_succ _))
  clear hC hl59 hc59 lt ho1 ho2 ht
  refine wpAny_call ?_
  k_dflt (refine' ks_code_super (binds := [(Str.ofString "self", .ref e), (Str.ofString "what", .str wh tw), (Str.ofString "spot", .int sp tp)]) ?k1 ?k2 ?k3 ?k4 ?k5 ?kA ?kF ?kK ?k6 ?k7 ?k8 ?k9 ?kB ?_ ?c1 ?c2 ?c3 ?c4)
  (case kA => exact rfl)
  (case kF => exact rfl)
  (case kK => assumption)
  (case k1 => k_asm)
  (case k2 => k_asm)
  (case k3 => k_asm)
  (case k4 => k_asm)
  (case k5 => k_asm)
  (case k6 => k_is)
  (case k7 => k_is)
  (case k8 => ktr_room)
  (case k9 => k_dflt (exact BindsTo.of_eq rfl))
  (case kB => exact locs rfl)
  (case c1 => decide)
  (case c2 => exact rfl)
  (case c3 => exact rfl)
  (case c4 => exact rfl)
  intro g' L' h' FG' F' N' B' X' T' l1
  (try k_lt l1)
  (try dsimp only)
  (try k_fold)

  k_steps
  all_goals (try dsimp only)
  (rename News _ _ _ _ => NN)
  exact hret _ _ _ _ ⟨_, _, _, _, _, rfl, rfl, hoff, Nat.ne_of_gt (by walk_at "own lt_deep")⟩ (by k_asm) (cb_drop NN (by walk_at "own k_subset"))
end
end Mine
namespace Mine
section
open Sem (wp)
set_option maxHeartbeats 1000000
/-! an exception on its way: of its object a word P is kept that no change of fields touches -/
def Lasts (P : Obj → Prop) : Prop := ∀ f o, P o → P (Obj.mapFields f o)
/-- the exception bears a traceback, whose flight is fl -/
def Borne (P : Obj → Prop) (base : Heap) (e : Addr) (fl : Value) (h : Heap) : Prop :=
  ∃ oe vs T oT ts, h.get? e = some oe ∧ P oe ∧ oe.data = .fields vs ∧ vs[1]? = some (.ref T) ∧ base.get? T = none ∧ T ≠ e ∧ h.get? T = some oT ∧ oT.data = .fields ts ∧ ts[3]? = some fl
structure Way (P : Obj → Prop) (base : Heap) (l : List Env) (e : Addr) (fl : Value) (h : Heap) : Prop where
  stays : base.StaysIn h
  new : base.get? e = none
  frames : h.FunFrames base l
  borne : Borne P base e fl h
section
variable {M : Model} {A : Around} {E : Value → Shared → Prop} {s : Shared} {P : Obj → Prop} {base : Heap} {env : Env} {outer : List Env} {L e : Addr}
theorem way_entry (hP : Lasts P) {oe : Obj} {vs : Array Value} {head : Value} {hadNext : Bool} {Q : Unit → Shared → Prop}
    (hfr : A.frames = some (env :: outer)) (hl : s.heap.FunFrames base (env :: outer)) (hf : env.frame = some L)
    (he : s.heap.get? e = some oe) (hPe : P oe) (hkb : base.StaysIn s.heap) (hen : base.get? e = none) (hd : oe.data = .fields vs) (hsz : 1 < vs.size)
    (h : ∀ h', Way P base (env :: outer) e (rawInt L) h' → s.heap.UpToSlots h' → Q () { s with heap := h' }) :
    wpAny M A (do let a ← frameOf env; let pl ← entryPlaceOf L hadNext; let b ← EntryCells.newEntry head a .none (rawInt L) .none pl; setField (.ref e) 1 b) Q E s := by
  have hene : e ∉ (env :: outer).filterMap (·.frame) := fun hm => by
    obtain ⟨_, o, ho, hnf⟩ := hl.mem hm
    rw [he] at ho; cases ho; exact hnf vs hd
  refine wpAny_bind (wpAny_frameOf_fun hfr hl hf fun h₁ hs₁ => ?_)
  refine wpAny_bind (wpAny_entryPlaceOf fun pl hpl => ?_)
  unfold EntryCells.newEntry newFields
  refine wpAny_bind (wpAny_newObj_type ?_ (hpl.sizeOk5 _ _ _ _ _))
  have he₁ : h₁.get? e = some oe := (hs₁.2.1 e hene).trans he
  have kb₁ : base.StaysIn h₁ := fun b o hbo => (hs₁.2.1 b fun hm => by rw [(hl.mem hm).1] at hbo; cases hbo).trans (hkb b o hbo)
  generalize hob : ({ cls := .type "traceback", dict := none, data := .fields ([head, .ref L, .none, rawInt L, .none] ++ (if pl.isEmpty then List.replicate 6 Value.none else pl)).toArray } : Obj) = ob
  have obd : ob.data = .fields ([head, .ref L, .none, rawInt L, .none] ++ (if pl.isEmpty then List.replicate 6 Value.none else pl)).toArray := by rw [← hob]
  have he₂ := Heap.get?_push_of_some ob he₁
  refine wpAny_setField he₂ hd hsz (h _ ?_ ?_)
  · have hTe : h₁.objs.size ≠ e := Nat.ne_of_gt (Heap.lt_size he₁)
    have hd₃ := Obj.data_mapFields hd (·.setIfInBounds 1 (Value.ref h₁.objs.size))
    have he₃ := Heap.get?_update_self (Obj.mapFields (·.setIfInBounds 1 (Value.ref h₁.objs.size))) he₂ (Obj.isFreed_of_fields hd₃)
    have hT₃ := (Heap.get?_update_other (h₁.push ob) (Obj.mapFields (·.setIfInBounds 1 (Value.ref h₁.objs.size))) (Ne.symm hTe)).trans (Heap.get?_push_size h₁ (Obj.isFreed_of_fields obd))
    have noRec : ∀ b o, s.heap.get? b = some o → (∀ vs, o.data ≠ .fields vs) → b ≠ e := fun b o hb hnf q => by
      rw [q, he] at hb; cases hb; exact hnf vs hd
    have keep : ∀ b o, b ≠ e → h₁.get? b = some o → ((h₁.push ob).update e (Obj.mapFields (·.setIfInBounds 1 (Value.ref h₁.objs.size)))).get? b = some o := fun b o hbe hb => by
      rw [Heap.get?_update_other _ _ (Ne.symm hbe)]; exact Heap.get?_push_of_some _ hb
    refine ⟨fun b o hbo => keep b o (fun q => by rw [q, hen] at hbo; cases hbo) (kb₁ b o hbo), hen, hl.of_keeps fun b o hb hnf => ?_, _, _, h₁.objs.size, ob, _, he₃, hP _ _ hPe, hd₃, by simp [hsz], kb₁.fresh, hTe, hT₃, obd, ?_⟩
    · obtain ⟨sl, hs⟩ := hs₁.2.2 b o hb
      exact ⟨_, keep b _ (noRec b o hb hnf) hs, rfl⟩
    · first | (simp; done) | (rcases hpl with rfl | ⟨_, _, _, _, _, _, _, rfl⟩ <;> simp)
  · intro b o hb hnf
    have hbe : b ≠ e := fun q => by rw [q, he] at hb; cases hb; exact hnf vs hd
    obtain ⟨sl, hs⟩ := hs₁.2.2 b o hb
    refine ⟨sl, ?_⟩
    rw [Heap.get?_update_other _ _ (Ne.symm hbe)]; exact Heap.get?_push_of_some _ hs
/-- the traceback's flight is laid anew -/
theorem way_flight {l : List Env} {fl : Value} {i : Nat} {v : Value} {Q : Unit → Shared → Prop} (W : Way P base l e fl s.heap) (hi : i = 3)
    {T : Addr} {oe oT : Obj} {vs ts : Array Value} (he : s.heap.get? e = some oe) (hPe : P oe) (hd : oe.data = .fields vs) (h1 : vs[1]? = some (.ref T)) (hnT : base.get? T = none) (hTe : T ≠ e) (hT : s.heap.get? T = some oT) (hdT : oT.data = .fields ts) (hsz : 3 < ts.size)
    (h : ∀ h', Way P base l e v h' → s.heap.UpToSlots h' → Q () { s with heap := h' }) : wpAny M A (setField (.ref T) i v) Q E s := by
  subst hi
  have other : ∀ b, b ≠ T → (s.heap.update T (Obj.mapFields (·.setIfInBounds 3 v))).get? b = s.heap.get? b := fun b hb => Heap.get?_update_other _ _ (Ne.symm hb)
  have noRec : ∀ b o, s.heap.get? b = some o → (∀ vs, o.data ≠ .fields vs) → b ≠ T := fun b o hb hnf q => by
    rw [q, hT] at hb; cases hb; exact hnf ts hdT
  refine wpAny_setField hT hdT hsz (h _ ⟨fun b o hbo => (other b fun q => by rw [q, hnT] at hbo; cases hbo).trans (W.stays b o hbo), W.new, W.frames.of_keeps fun b o hb hnf => ⟨o, (other b (noRec b o hb hnf)).trans hb, rfl⟩, ?_⟩ fun b o hb hnf => ⟨o.slots, (other b (noRec b o hb hnf)).trans hb⟩)
  exact ⟨oe, vs, T, _, _, (other e (Ne.symm hTe)).trans he, hPe, hd, h1, hnT, hTe, Heap.get?_update_self _ hT (Obj.isFreed_of_fields (Obj.data_mapFields hdT _)), Obj.data_mapFields hdT _, by simp [hsz]⟩
theorem way_lands {l : List Env} {fl : Value} {Q : Unit → Shared → Prop} (W : Way P base l e fl s.heap) (h : ∀ h', Way P base l e .none h' → s.heap.UpToSlots h' → Q () { s with heap := h' }) : wpAny M A (setFlight (.ref e) none) Q E s := by
  obtain ⟨oe, vs, T, oT, ts, he, hPe, hd, h1, hnT, hTe, hT, hdT, h3⟩ := W.borne
  unfold setFlight
  refine wpAny_bind (wpAny_field he hd h1 ?_)
  rw [if_pos (show (Value.ref T != Value.none) = true from by simp)]
  exact way_flight W rfl he hPe hd h1 hnT hTe hT hdT (Array.getElem?_eq_some_iff.mp h3).1 h
/-- the frame is noted, the first time -/
theorem way_note0 (hP : Lasts P) {oe : Obj} {vs : Array Value} {Q : Unit → Shared → Prop} (hfr : A.frames = some (env :: outer)) (hl : s.heap.FunFrames base (env :: outer)) (hf : env.frame = some L)
    (he : s.heap.get? e = some oe) (hPe : P oe) (hkb : base.StaysIn s.heap) (hen : base.get? e = none) (hd : oe.data = .fields vs) (h1 : vs[1]? = some .none)
    (h : ∀ h', Way P base (env :: outer) e (rawInt L) h' → s.heap.UpToSlots h' → Q () { s with heap := h' }) : wpAny M A (noteFrame (.ref e) env) Q E s := by
  unfold noteFrame
  simp only [hf]
  refine wpAny_bind (wpAny_field he hd h1 ?_)
  rw [if_neg (by decide)]
  exact way_entry hP hfr hl hf he hPe hkb hen hd (Array.getElem?_eq_some_iff.mp h1).1 h
/-- .. and the next time -/
theorem way_note (hP : Lasts P) {Q : Unit → Shared → Prop} (hfr : A.frames = some (env :: outer)) (hf : env.frame = some L) (W : Way P base (env :: outer) e .none s.heap)
    (h : ∀ h', Way P base (env :: outer) e (rawInt L) h' → s.heap.UpToSlots h' → Q () { s with heap := h' }) : wpAny M A (noteFrame (.ref e) env) Q E s := by
  obtain ⟨oe, vs, T, oT, ts, he, hPe, hd, h1, hnT, hTe, hT, hdT, h3⟩ := W.borne
  unfold noteFrame
  simp only [hf]
  refine wpAny_bind (wpAny_field he hd h1 ?_)
  rw [if_pos (show (Value.ref T != Value.none) = true from by simp)]
  refine wpAny_bind (wpAny_field hT hdT h3 ?_)
  rw [if_neg (show ¬ ((Value.none == rawInt L) = true) from by simp [rawInt])]
  refine wpAny_bind (way_flight W rfl he hPe hd h1 hnT hTe hT hdT (Array.getElem?_eq_some_iff.mp h3).1 fun h' W' U => ?_)
  obtain ⟨oe', vs', T', oT', ts', he', hPe', hd', h1', -⟩ := W'.borne
  exact way_entry (s := { s with heap := h' }) hP hfr W'.frames hf he' hPe' W'.stays W'.new hd' (Array.getElem?_eq_some_iff.mp h1').1 fun h'' W'' U' => h h'' W'' (U.trans U')
/-- .. and once more by the same frame -/
theorem way_again {l : List Env} {Q : Unit → Shared → Prop} (hf : env.frame = some L) (W : Way P base l e (rawInt L) s.heap) (h : Q () s) : wpAny M A (noteFrame (.ref e) env) Q E s := by
  obtain ⟨oe, vs, T, oT, ts, he, hPe, hd, h1, hnT, hTe, hT, hdT, h3⟩ := W.borne
  unfold noteFrame
  simp only [hf]
  refine wpAny_bind (wpAny_field he hd h1 ?_)
  rw [if_pos (show (Value.ref T != Value.none) = true from by simp)]
  refine wpAny_bind (wpAny_field hT hdT h3 ?_)
  rw [if_pos (show (rawInt L == rawInt L) = true from by simp)]
  exact wpAny_pure h
theorem Way.drop {l : List Env} {fl : Value} {h : Heap} (W : Way P base (env :: l) e fl h) : Way P base l e fl h := ⟨W.stays, W.new, W.frames.2.2, W.borne⟩
theorem way_leave0 (hP : Lasts P) {oe : Obj} {vs : Array Value} {Q : Unit → Shared → Prop} (hfr : A.frames = some (env :: outer)) (hl : s.heap.FunFrames base (env :: outer)) (hf : env.frame = some L)
    (he : s.heap.get? e = some oe) (hPe : P oe) (hkb : base.StaysIn s.heap) (hen : base.get? e = none) (hd : oe.data = .fields vs) (h1 : vs[1]? = some .none)
    (h : ∀ h', Way P base outer e .none h' → s.heap.UpToSlots h' → Q () { s with heap := h' }) : wpAny M A (leaving env (.ref e)) Q E s := by
  unfold leaving
  exact wpAny_bind (way_note0 hP hfr hl hf he hPe hkb hen hd h1 fun h' W U => way_lands (s := { s with heap := h' }) W fun h'' W' U' => h h'' W'.drop (U.trans U'))
theorem way_leave (hP : Lasts P) {Q : Unit → Shared → Prop} (hfr : A.frames = some (env :: outer)) (hf : env.frame = some L) (W : Way P base (env :: outer) e .none s.heap)
    (h : ∀ h', Way P base outer e .none h' → s.heap.UpToSlots h' → Q () { s with heap := h' }) : wpAny M A (leaving env (.ref e)) Q E s := by
  unfold leaving
  exact wpAny_bind (way_note hP hfr hf W fun h' W U => way_lands (s := { s with heap := h' }) W fun h'' W' U' => h h'' W'.drop (U.trans U'))
end
end
end Mine
namespace Mine
section
set_option maxHeartbeats 1000000
def PF (d : Addr) (o : Obj) : Prop := o.cls = .ref 81 ∧ o.dict = some d
theorem lasts_PF (d : Addr) : Lasts (PF d) := by
  intro f o h
  obtain ⟨c, di, da, sl⟩ := o
  cases da <;> exact h
def RaisedF (base : Heap) (l : List Env) (e d : Addr) (news : Led) (h : Heap) : Prop :=
  ∃ B, base.StaysIn B ∧ (∀ q ∈ news, B.get? q.1 = some q.2 ∧ base.get? q.1 = none) ∧ Way (PF d) B l e .none h
section
variable {M : Model} {A : Around} {E : Value → Shared → Prop} {s' : Shared} {base g g₂ h : Heap} {outer : List Env} {L a e d t : Addr} {m : Str → Option Value} {name : Str} {scope : Scope} {cd : Value} {Q : Unit → Shared → Prop} {news : Led}
theorem leave_first (K : Below A base outer g) (F : Fr g L s'.heap m) (N : News g L s'.heap ((e, excO t (some d)) :: news)) (he : ∀ p ∈ news, p.1 ≠ e)
    (hQ : ∀ h', RaisedF base outer e d news h' → g.UpToSlots h' → Q () { s' with heap := h' }) (hk : scope.kind = .function := by rfl) :
    wpAny M (A.deeper (envOf name scope L a cd)) (leaving (envOf name scope L a cd) (.ref e)) Q E s' := by
  have K' := K.push (name := name) (a := a) (cd := cd) F hk
  have Ne := N (e, excO t (some d)) (.head _)
  have hfe : ∀ b ∈ (envOf name scope L a cd :: outer).filterMap (·.frame), b ≠ e := by
    rintro b hm rfl
    obtain ⟨o, ho, hnf⟩ := (K'.frames.mem hm).2
    rw [Ne.1] at ho; cases ho
    exact hnf _ rfl
  have hin : ∀ env ∈ (envOf name scope L a cd :: outer), ∀ b, env.frame = some b → b ∈ e :: (envOf name scope L a cd :: outer).filterMap (·.frame) := fun env he b hb => List.mem_cons_of_mem _ (List.mem_filterMap.mpr ⟨env, he, hb⟩)
  have hbe : base.get? e = none := fresh_of_stays K.stays Ne.2.2
  have st : base.StaysIn (hideAll s'.heap (e :: (envOf name scope L a cd :: outer).filterMap (·.frame))) := fun b o q => hideAll_get _ (K'.stays b o q) fun hm => by
    rcases List.mem_cons.mp hm with rfl | hm
    · rw [hbe] at q; cases q
    · rw [(K'.frames.mem hm).1] at q; cases q
  have hl : ∀ q ∈ news, (hideAll s'.heap (e :: (envOf name scope L a cd :: outer).filterMap (·.frame))).get? q.1 = some q.2 ∧ base.get? q.1 = none := fun q hq => by
    have Nq := N q (List.mem_cons_of_mem _ hq)
    refine ⟨hideAll_get _ Nq.1 fun hm => ?_, fresh_of_stays K.stays Nq.2.2⟩
    rcases List.mem_cons.mp hm with hm | hm
    · exact he q hq hm
    obtain ⟨env, hv, hf⟩ := List.mem_filterMap.mp hm
    rcases List.mem_cons.mp hv with rfl | hv
    · exact Nq.2.1 (Option.some.inj hf).symm
    · obtain ⟨o, ho, _⟩ := (K.frames.mem (List.mem_filterMap.mpr ⟨env, hv, hf⟩)).2
      rw [Nq.2.2] at ho; cases ho
  refine way_leave0 (lasts_PF d) K'.stack (funFrames_hide K'.frames hin) rfl Ne.1 ⟨rfl, rfl⟩ (fun b o q => of_hideAll _ q) (hideAll_none _ (.head _)) rfl rfl fun h' W U => ?_
  exact hQ h' ⟨_, st, hl, W⟩ ((Heap.UpToSlots.of_keeps F.keep).trans U)
theorem leave_next (K : Below A base outer g) (F : Fr g L g₂ m) (R : RaisedF base (envOf name scope L a cd :: outer) e d news s'.heap) (hsm : g₂.UpToSlots s'.heap)
    (hQ : ∀ h', RaisedF base outer e d news h' → g.UpToSlots h' → Q () { s' with heap := h' }) :
    wpAny M (A.deeper (envOf name scope L a cd)) (leaving (envOf name scope L a cd) (.ref e)) Q E s' := by
  obtain ⟨B, hB, hl, W⟩ := R
  exact way_leave (lasts_PF d) (Around.frames_deeper K.stack) rfl W fun h' W' U => hQ h' ⟨B, hB, hl, W'⟩ ((Heap.UpToSlots.of_keeps F.keep).trans (hsm.trans U))
end
section
variable {prog : Program} {w : World} {A : Around} {E : Value → Shared → Prop} {s : Shared} {env : Env} {P : Params}
/-- what is to hold where a fault is thrown -/
def Thrown (P : Params) (E : Value → Shared → Prop) (v : Value) (s₁ : Shared) : Prop :=
  ∃ e t dd, v = .ref e ∧ (hd.heap_39 P).In s₁.heap ∧ s₁.heap.get? e = some (excO t dd) ∧ E (.ref e) s₁
theorem raise_fault (P : Params) {x : PySem.Expr} {pos : Pos} {Q : Flow → Shared → Prop} (hh : A.handled = none) (h : wpAny (model prog w) A (eval x env) (Thrown P E) E s) :
    wpAny (model prog w) A (exec (.Raise (some x) none pos) env) Q E s := by
  show wpAny _ A (do standAt pos; raiseStmt env (some (do let v ← eval x env; standAt pos; pure v)) none) Q E s
  refine wpAny_bind (wpAny_standAt ?_)
  unfold raiseStmt
  dsimp only
  refine wpAny_bind (wpAny_bind (wpAny_mono h (fun v s₁ h₁ => wpAny_bind (wpAny_standAt (wpAny_pure ?_))) fun _ _ x => x))
  obtain ⟨e, t, dd, rfl, X, he, hE⟩ := h₁
  obtain ⟨nm, qn, NN, bs, hdct, sn, sub, ab, col, dc, k0, k1, k2, k3, k5, hC⟩ := cls81 X
  have hcB : (Value.ref 81 :: mro81.tail).contains (.type "BaseException") = true := by decide +kernel
  obtain ⟨hp, g, d, tk, os⟩ := s₁
  repeat (first | with_reducible refine wpAny_loadPart_at he ?_ | with_reducible refine wpAny_loadPart_at hC ?_ | (with_reducible refine wpAny_isSubtype_exc hC ?_; rw [hcB]) | wp_step)
  exact wpAny_raiseNew_none hh hE
end
end
end Mine
namespace Mine
section
set_option maxHeartbeats 1000000
/-- a contract of a def that may throw a fault: xpost tells of the dict d of the fault and of the ledger -/
def SpecX (w : World) (mean : ExcName → Option Value) (mg mb : Str → Option Value) (f : Addr) (args : List Value) (pre : Led) (d u : Nat) (post : Value → Led → Prop) (xpost : Addr → Led → Prop) : Prop :=
  ∀ (dp un : Nat) (gd : Option (List Code)) (cn : Str) (cs : Scope) (a : Addr) (ccd : Value) (cl : List (Str × Addr)) (outer : List Env) (A₀ : Around) (base h₀ : Heap) (L : Addr) (m : Str → Option Value) (s : Shared) (Q E : Value → Shared → Prop),
    Below A₀ base outer h₀ → Fr h₀ L s.heap m → (hd.heap_39 w.params).In h₀ → News h₀ L s.heap pre → Top hd.view_39 (looseW hd.view_39 [Str.ofString "_law_good", Str.ofString "_law_odd"]) mean mg mb h₀ → cs.kind = .function → dp + d < recursionLimit → un + u < cLine →
    (∀ v news' h' tk', post v news' → Fr h₀ L h' m → News h₀ L h' news' → Q v { s with heap := h', toks := tk' }) →
    (∀ e dx news' h' tk' g, xpost dx news' → Fr h₀ L g m → g.UpToSlots h' → RaisedF base (envX cn cs L a ccd cl :: outer) e dx news' h' → E (.ref e) { s with heap := h', toks := tk' }) →
    wpAny (model PySem.Challenge.rw_nz0006_01.row.prog w) (ktrTop dp un gd cn cs L a ccd cl outer) (call (.ref f) args) Q E s
theorem spec_useX {w : World} {mean : ExcName → Option Value} {mg mb : Str → Option Value} {f : Addr} {args : List Value} {pre : Led} {d u : Nat} {post : Value → Led → Prop} {xpost : Addr → Led → Prop} (hS : SpecX w mean mg mb f args pre d u post xpost)
    {dp un : Nat} {gd : Option (List Code)} {cn : Str} {cs : Scope} {a : Addr} {ccd : Value} {cl : List (Str × Addr)} {outer : List Env} {A₀ : Around} {base h₀ : Heap} {L : Addr} {m : Str → Option Value} {s : Shared} {Q E : Value → Shared → Prop}
    (B : Below A₀ base outer h₀) (F : Fr h₀ L s.heap m) (X : (hd.heap_39 w.params).In h₀) (N : News h₀ L s.heap pre) (T : Top hd.view_39 (looseW hd.view_39 [Str.ofString "_law_good", Str.ofString "_law_odd"]) mean mg mb h₀) (hk : cs.kind = .function) (hd : dp + d < recursionLimit) (hu : un + u < cLine)
    (hret : ∀ v news' h' tk', post v news' → Fr h₀ L h' m → News h₀ L h' news' → Q v { s with heap := h', toks := tk' })
    (hexc : ∀ e dx news' h' tk' g, xpost dx news' → Fr h₀ L g m → g.UpToSlots h' → RaisedF base (envX cn cs L a ccd cl :: outer) e dx news' h' → E (.ref e) { s with heap := h', toks := tk' }) :
    wpAny (model PySem.Challenge.rw_nz0006_01.row.prog w) (ktrTop dp un gd cn cs L a ccd cl outer) (call (.ref f) args) Q E s :=
  hS _ _ _ _ _ _ _ _ _ _ _ _ _ _ _ _ _ B F X N T hk hd hu hret hexc
/-- what a fault at the spot i leaves: its dict, and the ledger's old part -/
def XF (P : Params) (i : Int) (tl : Led) (dx : Addr) (n' : Led) : Prop := ∃ kw ks wv ti, n' = (dx, dictOf [whatE P kw wv, spotE P ks (.int i ti)] 2) :: tl
theorem he_cons {d e : Addr} {o : Obj} {pre : Led} (ne : @Ne Nat d e) (off : ∀ p ∈ pre, p.1 ≠ e) : ∀ p ∈ (d, o) :: pre, p.1 ≠ e := by
  intro p hp
  rcases List.mem_cons.mp hp with rfl | hp
  · exact ne
  · exact off p hp
theorem RaisedF.sub {base : Heap} {l : List Env} {e d : Addr} {news news' : Led} {h : Heap} (R : RaisedF base l e d news h) (hs : ∀ p ∈ news', p ∈ news) : RaisedF base l e d news' h := by
  obtain ⟨B, a, b, c⟩ := R
  exact ⟨B, a, fun q hq => b q (hs q hq), c⟩
end
end Mine
namespace Mine
section
set_option maxHeartbeats 1000000
def numS (l : List Nat) (i : Nat) : Nat := if l[i]? = some 45 then i + 1 else i
def numD (l : List Nat) (i : Nat) : List Nat := (l.drop (numS l i)).takeWhile isDig
def numV (l : List Nat) (i : Nat) : Int := if l[i]? = some 45 then -((NumText.digitsVal (numD l i) : Nat) : Int) else ((NumText.digitsVal (numD l i) : Nat) : Int)
theorem strOf_empty {l : List Nat} (h : (strOf l == Str.ofString "") = true) : l = [] := by
  have := eq_of_beq h
  have e := congrArg (fun s : Str => s.cps.toList) this
  simpa [strOf] using e.trans (by decide +kernel : (Str.ofString "").cps.toList = [])
theorem strOf_ne {l : List Nat} (h : (strOf l == Str.ofString "") = false) : l ≠ [] := by
  rintro rfl; exact absurd h (by decide +kernel)
theorem takeDig_all (l : List Nat) : NumText.AllDigits (l.takeWhile isDig) := by
  intro c hc
  have := List.all_takeWhile (l := l) (p := isDig)
  have := List.all_eq_true.mp this c hc
  simpa [isDig] using this
theorem digits_read (x : Str) (i : Nat) (hx : x.length ≤ 400) (hne : (x.cps.toList.drop i).takeWhile isDig ≠ []): PySem.intText? (strOf ((x.cps.toList.drop i).takeWhile isDig)) = some ((NumText.digitsVal ((x.cps.toList.drop i).takeWhile isDig) : Nat) : Int) := by
  have hl := run_len x isDig i
  exact PySem.intText_digits (x := strOf ((x.cps.toList.drop i).takeWhile isDig)) (by simpa [strOf] using takeDig_all _) (by simpa [strOf] using hne) (by omega)
end
end Mine
namespace Mine
section
theorem fresh_NumS : True := by w_top off; trivial
set_option maxHeartbeats 1000000
local macro_rules | `(tactic| k_all) => `(tactic| assumption)
local macro_rules | `(tactic| walk_at "own lt_of") => `(tactic| (first | assumption | (rename _ ∧ _ => nn; with_reducible first | exact nn.1 | exact nn.2.1 | exact nn.2.2 | exact nn.2.2.1 | exact nn.2.2.2 | exact nn.2.2.2.1 | exact nn.2.2.2.2 | exact nn.2.2.2.2.1 | exact nn.2.2.2.2.2)))
local macro_rules | `(tactic| walk_at "exec Raise some none") => `(tactic| (k_here; (rename World => wX); k_dflt (refine' raise_fault (World.params wX) (by rfl) ?_)))
local macro_rules | `(tactic| walk_at "call ref") => `(tactic| (k_here; k_dflt (first
  | (refine' spec_use (sign_spec _ _ _ _ _ _ _ _ _ _ _ _ ?hi ?hx _ ?ne ?off) ?B ?F ?X ?N ?T ?hk ?hd ?hu ?_; (case B => k_asm); (case F => k_asm); (case X => k_asm); (case N => first | k_asm | (rename News _ _ _ _ => NN; have N8 := cb_tail NN; first | k_asm | (have N7 := cb_tail N8; k_asm))); (case T => k_asm); (case hi => first | assumption | omega); (case hx => assumption); (case ne => assumption); (case off => assumption); (case hk => first | exact rfl | assumption); (case hd => ktr_room); (case hu => ktr_units); intro v9 n9 h9 tk9 P9 F9 N9; obtain ⟨e9, t9, e8⟩ := P9; subst e9; subst e8)
  | (refine' spec_use (run_of_spec _ _ _ _ _ _ isDig (fun _ => occ_dig) _ _ _ _ _ _ _ _ ?hi ?hx _ ?ne ?off) ?B ?F ?X ?N ?T ?hk ?hd ?hu ?_; (case B => k_asm); (case F => k_asm); (case X => k_asm); (case N => first | k_asm | (rename News _ _ _ _ => NN; have N8 := cb_tail NN; first | k_asm | (have N7 := cb_tail N8; k_asm))); (case T => k_asm); (case hi => first | assumption | omega); (case hx => assumption); (case ne => assumption); (case off => assumption); (case hk => first | exact rfl | assumption); (case hd => ktr_room); (case hu => ktr_units); intro v9 n9 h9 tk9 P9 F9 N9; obtain ⟨t9, u9, e9, e8⟩ := P9; subst e9; subst e8)
  | (refine' spec_use (fault_made _ _ _ _ _ _ _ _ _) ?B ?F ?X ?N ?T ?hk ?hd ?hu ?_; (case B => k_asm); (case F => k_asm); (case X => k_asm); (case N => first | k_asm | (rename News _ _ _ _ => NN; have N8 := cb_tail NN; first | k_asm | (have N7 := cb_tail N8; k_asm))); (case T => k_asm);  (case hk => first | exact rfl | assumption); (case hd => ktr_room); (case hu => ktr_units); intro v9 n9 h9 tk9 P9 F9 N9; obtain ⟨e9, d9, t9, kw9, ks9, e8, e7, off9, ne9⟩ := P9; subst e8; subst e7)); (try dsimp only); (try k_fold)))
local macro_rules | `(tactic| walk_at "call type:int") => `(tactic| (refine Stop.of ?_))
theorem number_spec (w : World) (mean : ExcName → Option Value) (mg mb : Str → Option Value) (sc dS : Nat) (x : Str) (kt ks tx ti : Tok) (i : Nat) (hi : i ≤ x.length) (hx : x.length ≤ 400) (tl : Led) (hne : @Ne Nat sc dS) (hoff : ∀ p ∈ tl, p.1 ≠ dS) :
   SpecX w mean mg mb 132 [.ref sc] ((sc, instObj 142 dS) :: (dS, scD w.params kt ks x tx i ti) :: tl) 80 200 (fun v n' => numD x.cps.toList i ≠ [] ∧ ∃ t' tv, n' = ((sc, instObj 142 dS) :: (dS, scD w.params kt ks x tx (upto isDig x.cps.toList (numS x.cps.toList i) : Nat) t') :: tl) ∧ v = .int (numV x.cps.toList i) tv) (fun dx n' => numD x.cps.toList i = [] ∧ XF w.params i tl dx n') := by
  have hl0 := Nat.le_trans (run_len x isDig i) hx
  have hl1 := Nat.le_trans (run_len x isDig (i + 1)) hx
  unfold SpecX
  k_fill
  intro dp un gd cn cs a ccd cl outer A₀ base h₀ L m s Q E B F X N T hk hd hu hret hexc
  refine wpAny_call ?_
  k_dflt (refine' code_def (binds := [(Str.ofString "self", .ref sc)]) ?k1 ?k2 ?k3 ?k4 ?k5 ?kA ?kF ?kK ?k6 ?k7 ?k8 ?k9 ?kB ?_ ?c2 ?c3 ?c4 ?c5)
  (case kA => exact rfl)
  (case kF => exact rfl)
  (case kK => assumption)
  (case k1 => k_asm)
  (case k2 => k_asm)
  (case k3 => k_asm)
  (case k4 => k_asm)
  (case k5 => k_asm)
  (case k6 => k_is)
  (case k7 => k_is)
  (case k8 => ktr_room)
  (case k9 => k_dflt (exact BindsTo.of_eq rfl))
  (case c5 => decide)
  (case kB => exact locs rfl)
  (case c2 => exact rfl)
  (case c3 => exact rfl)
  (case c4 => exact rfl)
  intro g' L' h' FG' F' N' B' X' T'
  (try dsimp only)
  (try k_fold)

  k_steps
  · (rename News _ _ _ _ => NN)
    rw [show (i : Int) + 1 = ((i + 1 : Nat) : Int) from rfl] at NN
    (rename (sgn _ == _) = true => hs)
    have h45 := sgn_c 45 rfl hs
    have hi1 : i + 1 ≤ x.length := by
      obtain ⟨h, -⟩ := List.getElem?_eq_some_iff.mp h45
      rw [len_list] at h; exact h
    have eS : numS x.cps.toList i = i + 1 := by rw [numS, if_pos h45]
    k_steps
    · (rename (strOf _ == _) = true => hq)
      have e0 : numD x.cps.toList i = [] := by rw [numD, eS]; exact strOf_empty hq
      (rename Fr _ _ _ _ => FF); (rename News _ _ _ _ => NN); (rename @Ne Nat _ _ => ne9); (rename ∀ p ∈ _, @Ne _ _ _ => off9)
      refine ⟨_, _, _, rfl, X'.keeps FF.keep, (NN _ (.head _)).1, ?_⟩
      show wpAny _ (Around.deeper _ _) (leaving _ _) _ _ _
      exact leave_first B' FF NN (he_cons ne9 off9) fun h7 R7 U7 => hexc _ _ _ _ _ _ ⟨e0, _, _, _, _, rfl⟩ FG' U7 (R7.sub (by walk_at "own k_subset"))
    · (rename (strOf _ == _) = false => hq)
      have hne := strOf_ne hq
      have e0 : numD x.cps.toList i ≠ [] := by rw [numD, eS]; exact hne
      unfold Stop
      refine KIN.call_text (digits_read x (i + 1) hx hne) (by omega) ?_
      k_steps
      have e1 : numV x.cps.toList i = -((NumText.digitsVal ((x.cps.toList.drop (i + 1)).takeWhile isDig) : Nat) : Int) := by rw [numV, if_pos h45, numD, eS]
      exact hret _ _ _ _ ⟨e0, _, _, by rw [eS], congrArg (fun z => Value.int z _) e1.symm⟩ (by k_asm) (by k_asm)
  · (rename (sgn _ == _) = false => hs)
    have h45 := sgn_n 45 rfl hs
    have eS : numS x.cps.toList i = i := by rw [numS, if_neg h45]
    (rename (strOf _ == _) = true => hq)
    have e0 : numD x.cps.toList i = [] := by rw [numD, eS]; exact strOf_empty hq
    (rename Fr _ _ _ _ => FF); (rename News _ _ _ _ => NN); (rename @Ne Nat _ _ => ne9); (rename ∀ p ∈ _, @Ne _ _ _ => off9)
    refine ⟨_, _, _, rfl, X'.keeps FF.keep, (NN _ (.head _)).1, ?_⟩
    show wpAny _ (Around.deeper _ _) (leaving _ _) _ _ _
    exact leave_first B' FF NN (he_cons ne9 off9) fun h7 R7 U7 => hexc _ _ _ _ _ _ ⟨e0, _, _, _, _, rfl⟩ FG' U7 (R7.sub (by walk_at "own k_subset"))
  · (rename (sgn _ == _) = false => hs)
    have h45 := sgn_n 45 rfl hs
    have eS : numS x.cps.toList i = i := by rw [numS, if_neg h45]
    (rename (strOf _ == _) = false => hq)
    have hne := strOf_ne hq
    have e0 : numD x.cps.toList i ≠ [] := by rw [numD, eS]; exact hne
    unfold Stop
    refine KIN.call_text (digits_read x i hx hne) (by omega) ?_
    k_steps
    have e1 : numV x.cps.toList i = ((NumText.digitsVal ((x.cps.toList.drop i).takeWhile isDig) : Nat) : Int) := by rw [numV, if_neg h45, numD, eS]
    exact hret _ _ _ _ ⟨e0, _, _, by rw [eS], congrArg (fun z => Value.int z _) e1.symm⟩ (by k_asm) (by k_asm)
end
end Mine
namespace Mine
section
theorem add_nat {prog : Program} {w : World} {A : Around} {E : Value → Shared → Prop} {s : Shared} {k : Nat} {t u : Tok} {Q : Value → Shared → Prop} (h : Q (.int ((k + 1 : Nat) : Int) s.toks) { s with toks := s.toks + 1 }) : wpAny (model prog w) A (binaryOp .Add (.int (k : Int) t) (.int 1 u)) Q E s := add_int h
/-- what a text in quotes gives, from its sign k on: the signs and the end, or the spot of a backslash, or no end -/
inductive QR where
  | ok (text : List Nat) (k : Nat)
  | slash (k : Nat)
  | open_
def qscan (l : List Nat) (k : Nat) (acc : List Nat) : QR :=
  match h : l[k]? with
  | none => .open_
  | some c =>
    if c = 34 then .ok acc (k + 1)
    else if c = 10 then .open_
    else if c = 92 then
      (if l[k + 1]? = some 110 then qscan l (k + 2) (acc ++ [10])
       else if l[k + 1]? = some 34 then qscan l (k + 2) (acc ++ [34])
       else if l[k + 1]? = some 92 then qscan l (k + 2) (acc ++ [92])
       else .slash k)
    else qscan l (k + 1) (acc ++ [c])
termination_by l.length - k
decreasing_by all_goals (obtain ⟨hj, -⟩ := List.getElem?_eq_some_iff.mp h; omega)
section
variable {l : List Nat} {k : Nat} {acc : List Nat}
theorem q_end (h : l[k]? = some 34) : qscan l k acc = .ok acc (k + 1) := by
  rw [qscan]; split
  · rename_i h'; rw [h] at h'; cases h'
  · rename_i c h'; rw [h] at h'; cases h'; rw [if_pos rfl]
theorem q_open (h : l[k]? = none ∨ l[k]? = some 10) : qscan l k acc = .open_ := by
  rw [qscan]; split
  · rfl
  · rename_i c h'
    rcases h with h | h
    · rw [h] at h'; cases h'
    · rw [h] at h'; cases h'; rw [if_neg (by decide), if_pos rfl]
theorem q_esc {c d : Nat} (h : l[k]? = some 92) (h1 : l[k + 1]? = some c) (hd : c = 110 ∧ d = 10 ∨ c = 34 ∧ d = 34 ∨ c = 92 ∧ d = 92) : qscan l k acc = qscan l (k + 2) (acc ++ [d]) := by
  conv => lhs; rw [qscan]
  split
  · rename_i h'; rw [h] at h'; cases h'
  · rename_i c' h'; rw [h] at h'; cases h'
    rw [if_neg (by decide), if_neg (by decide), if_pos rfl, h1]
    rcases hd with ⟨rfl, rfl⟩ | ⟨rfl, rfl⟩ | ⟨rfl, rfl⟩
    · rw [if_pos rfl]
    · rw [if_neg (by decide), if_pos rfl]
    · rw [if_neg (by decide), if_neg (by decide), if_pos rfl]
theorem q_bad (h : l[k]? = some 92) (h1 : l[k + 1]? ≠ some 110) (h2 : l[k + 1]? ≠ some 34) (h3 : l[k + 1]? ≠ some 92) : qscan l k acc = .slash k := by
  rw [qscan]; split
  · rename_i h'; rw [h] at h'; cases h'
  · rename_i c' h'; rw [h] at h'; cases h'
    rw [if_neg (by decide), if_neg (by decide), if_pos rfl, if_neg h1, if_neg h2, if_neg h3]
theorem q_go {c : Nat} (h : l[k]? = some c) (h1 : c ≠ 34) (h2 : c ≠ 10) (h3 : c ≠ 92) : qscan l k acc = qscan l (k + 1) (acc ++ [c]) := by
  conv => lhs; rw [qscan]
  split
  · rename_i h'; rw [h] at h'; cases h'
  · rename_i c' h'; rw [h] at h'; cases h'
    rw [if_neg h1, if_neg h2, if_neg h3]
end
def ones (acc : List Nat) : List Str := acc.map fun c => ⟨#[c]⟩
theorem join_ones (acc : List Nat) : Txt.join (Str.ofString "") (ones acc) = strOf acc := by
  unfold Txt.join Builtin.Str.glued ones strOf
  cases acc with
  | nil => rfl
  | cons c r =>
    apply PySem.Str.ext'
    dsimp only
    have key : ∀ (r : List Nat) (a : Array Nat), ((r.map fun c => (⟨#[c]⟩ : Str)).foldl (fun acc p => acc ++ (Str.ofString "").cps ++ p.cps) a) = a ++ r.toArray := by
      intro r
      induction r with
      | nil => intro a; simp
      | cons d r ih =>
        intro a
        rw [List.map_cons, List.foldl_cons, ih]
        have e : (Str.ofString "").cps = #[] := by decide +kernel
        rw [e]
        simp
    simp only [List.map_cons, List.drop_succ_cons, List.drop_zero, List.headD_cons]
    rw [key]
    simp
theorem ones_sum (acc : List Nat) : ((ones acc).map (·.length)).sum + (ones acc).length = 2 * acc.length := by
  unfold ones
  induction acc with
  | nil => rfl
  | cons c r ih =>
    simp only [List.map_cons, List.sum_cons, List.length_cons] at ih ⊢
    have : ({ cps := #[c] } : Str).length = 1 := rfl
    omega
theorem strs_snoc {vs : List Value} {acc : List Nat} (h : PyProof.Rows.StrsAre vs (ones acc)) (c : Nat) (t : Tok) : PyProof.Rows.StrsAre (vs ++ [.str ⟨#[c]⟩ t]) (ones (acc ++ [c])) := by
  unfold ones at h ⊢
  induction acc generalizing vs with
  | nil => cases h; exact .cons _ _ .nil
  | cons d r ih =>
    rw [List.map_cons] at h
    cases h with
    | cons y u h => exact .cons _ _ (ih h)
theorem strs_len {vs : List Value} {acc : List Nat} (h : PyProof.Rows.StrsAre vs (ones acc)) : vs.length = acc.length := by
  unfold ones at h
  induction acc generalizing vs with
  | nil => cases h; rfl
  | cons d r ih =>
    rw [List.map_cons] at h
    cases h with
    | cons y u h => rw [List.length_cons, List.length_cons, ih h]
theorem any3_false {o : Option Nat} (h : ([Str.ofString "", Str.ofString "\n", Str.ofString "\""].any fun z => z == sgn o) = false) : ∃ c, o = some c ∧ c ≠ 10 ∧ c ≠ 34 := by
  simp only [List.any_cons, List.any_nil, Bool.or_false, Bool.or_eq_false_iff] at h
  obtain ⟨h1, h2, h3⟩ := h
  rw [str_beq_comm] at h2 h3
  cases o with
  | none => exact absurd h1 (by decide +kernel)
  | some c => exact ⟨c, rfl, fun e => sgn_n 10 rfl h2 (by rw [e]), fun e => sgn_n 34 rfl h3 (by rw [e])⟩
theorem any3_true {o : Option Nat} (h : ([Str.ofString "", Str.ofString "\n", Str.ofString "\""].any fun z => z == sgn o) = true) : o = none ∨ o = some 10 ∨ o = some 34 := by
  simp only [List.any_cons, List.any_nil, Bool.or_false, Bool.or_eq_true] at h
  rcases h with h | h | h
  · cases o with
    | none => exact .inl rfl
    | some c => rw [str_beq_comm, show sgn (some c) = ⟨#[c]⟩ from rfl, one_empty] at h; cases h
  · rw [str_beq_comm] at h; exact .inr (.inl (sgn_c 10 rfl h))
  · rw [str_beq_comm] at h; exact .inr (.inr (sgn_c 34 rfl h))
theorem esc_true {o : Option Nat} (h : ([Str.ofString "n", Str.ofString "\"", Str.ofString "\\"].any fun z => z == sgn o) = true) : o = some 110 ∨ o = some 34 ∨ o = some 92 := by
  simp only [List.any_cons, List.any_nil, Bool.or_false, Bool.or_eq_true] at h
  rcases h with h | h | h <;> rw [str_beq_comm] at h
  · exact .inl (sgn_c 110 rfl h)
  · exact .inr (.inl (sgn_c 34 rfl h))
  · exact .inr (.inr (sgn_c 92 rfl h))
theorem esc_false {o : Option Nat} (h : ([Str.ofString "n", Str.ofString "\"", Str.ofString "\\"].any fun z => z == sgn o) = false) : o ≠ some 110 ∧ o ≠ some 34 ∧ o ≠ some 92 := by
  simp only [List.any_cons, List.any_nil, Bool.or_false, Bool.or_eq_false_iff] at h
  obtain ⟨h1, h2, h3⟩ := h
  rw [str_beq_comm] at h1 h2 h3
  exact ⟨sgn_n 110 rfl h1, sgn_n 34 rfl h2, sgn_n 92 rfl h3⟩
theorem lt_of_some (x : Str) {k c : Nat} (h : x.cps.toList[k]? = some c) : k + 1 ≤ x.length := by
  obtain ⟨h, -⟩ := List.getElem?_eq_some_iff.mp h
  rw [len_list] at h; exact h
end
end Mine
namespace Mine
section
theorem fresh_QuoS : True := by w_top off; trivial
set_option maxHeartbeats 1000000
local macro_rules | `(tactic| k_all) => `(tactic| assumption)
local macro_rules | `(tactic| walk_at "own lt_of") => `(tactic| (first | assumption | (rename _ ∧ _ => nn; with_reducible first | exact nn.1 | exact nn.2.1 | exact nn.2.2 | exact nn.2.2.1 | exact nn.2.2.2 | exact nn.2.2.2.1 | exact nn.2.2.2.2 | exact nn.2.2.2.2.1 | exact nn.2.2.2.2.2)))
local macro_rules | `(tactic| walk_at "exec Raise some none") => `(tactic| (k_here; (rename World => wX); k_dflt (refine' raise_fault (World.params wX) (by rfl) ?_)))
local macro_rules | `(tactic| walk_at "binaryOp Add int int") => `(tactic| (k_here; (with_reducible refine add_nat ?_)))
local macro_rules | `(tactic| walk_at "call ref") => `(tactic| (k_here; k_dflt (first
  | (refine' spec_use (sign_spec _ _ _ _ _ _ _ _ _ _ _ _ ?hi ?hx _ ?ne ?off) ?B ?F ?X ?N ?T ?hk ?hd ?hu ?_; (case B => k_asm); (case F => k_asm); (case X => k_asm); (case N => first | k_asm | (rename News _ _ _ _ => NN; have N8 := cb_tail NN; first | k_asm | (have N7 := cb_tail N8; k_asm))); (case T => k_asm); (case hi => first | assumption | omega); (case hx => assumption); (case ne => assumption); (case off => first | assumption | exact off_cons (by assumption) (by assumption)); (case hk => first | exact rfl | assumption); (case hd => ktr_room); (case hu => ktr_units); intro v9 n9 h9 tk9 P9 F9 N9; obtain ⟨e9, t9, e8⟩ := P9; subst e9; subst e8)
  | (refine' spec_use (fault_made _ _ _ _ _ _ _ _ _) ?B ?F ?X ?N ?T ?hk ?hd ?hu ?_; (case B => k_asm); (case F => k_asm); (case X => k_asm); (case N => first | k_asm | (rename News _ _ _ _ => NN; have N8 := cb_tail NN; first | k_asm | (have N7 := cb_tail N8; k_asm))); (case T => k_asm);  (case hk => first | exact rfl | assumption); (case hd => ktr_room); (case hu => ktr_units); intro v9 n9 h9 tk9 P9 F9 N9; obtain ⟨e9, d9, t9, kw9, ks9, e8, e7, off9, ne9⟩ := P9; subst e8; subst e7)); (try dsimp only); (try k_fold)))
local macro_rules | `(tactic| walk_at "exec While Compare cons nil") => `(tactic| (refine Stop.of ?_))
local macro_rules | `(tactic| walk_at "call builtin:str.join") => `(tactic| (refine Stop.of ?_))
theorem quotation_spec (w : World) (mean : ExcName → Option Value) (mg mb : Str → Option Value) (sc dS : Nat) (x : Str) (kt ks tx ti : Tok) (i : Nat) (hi : i ≤ x.length) (hx : x.length ≤ 400) (tl : Led) (hne : @Ne Nat sc dS) (hoff : ∀ p ∈ tl, p.1 ≠ dS) (hi1 : i + 1 ≤ x.length) :
   SpecX w mean mg mb 125 [.ref sc] ((sc, instObj 142 dS) :: (dS, scD w.params kt ks x tx i ti) :: tl) 80 200 (fun v n' => ∃ acc k t' tv, qscan x.cps.toList (i + 1) [] = .ok acc k ∧ k ≤ x.length ∧ n' = ((sc, instObj 142 dS) :: (dS, scD w.params kt ks x tx k t') :: tl) ∧ v = .str (strOf acc) tv) (fun dx n' => ∃ j : Nat, (qscan x.cps.toList (i + 1) [] = .slash j ∨ qscan x.cps.toList (i + 1) [] = .open_ ∧ j = i) ∧ XF w.params j tl dx n') := by
  unfold SpecX
  k_fill
  intro dp un gd cn cs a ccd cl outer A₀ base h₀ L m s Q E B F X N T hk hd hu hret hexc
  refine wpAny_call ?_
  k_dflt (refine' code_def (binds := [(Str.ofString "self", .ref sc)]) ?k1 ?k2 ?k3 ?k4 ?k5 ?kA ?kF ?kK ?k6 ?k7 ?k8 ?k9 ?kB ?_ ?c2 ?c3 ?c4 ?c5)
  (case kA => exact rfl)
  (case kF => exact rfl)
  (case kK => assumption)
  (case k1 => k_asm)
  (case k2 => k_asm)
  (case k3 => k_asm)
  (case k4 => k_asm)
  (case k5 => k_asm)
  (case k6 => k_is)
  (case k7 => k_is)
  (case k8 => ktr_room)
  (case k9 => k_dflt (exact BindsTo.of_eq rfl))
  (case c5 => decide)
  (case kB => exact locs rfl)
  (case c2 => exact rfl)
  (case c3 => exact rfl)
  (case c4 => exact rfl)
  intro g' L' h' FG' F' N' B' X' T'
  (try dsimp only)
  (try k_fold)

  k_steps
  unfold Stop
  (rename Fr _ _ _ _ => F₂)
  (rename News _ _ _ _ => N₂)
  rename_i tkA p h5 lp D h4 lD h3 h2 h1 h0
  have hpd : @Ne Nat p dS := Nat.ne_of_gt lp.2.1
  refine while_cut (fun n m nx => ∃ (k : Nat) (t : Tok) (vs : List Value) (nn : Nat) (acc : List Nat), n = x.length - k ∧ qscan x.cps.toList k acc = qscan x.cps.toList (i + 1) [] ∧ acc.length ≤ k ∧ k ≤ x.length ∧ PyProof.Rows.StrsAre vs (ones acc) ∧ Pins m [(Str.ofString "self", .ref sc), (Str.ofString "begin", .int i ti), (Str.ofString "pieces", .ref p)] ∧ nx = ((sc, instObj 142 dS) :: (dS, scD w.params kt ks x tx k t) :: (p, listOf (List.toArray vs) nn) :: tl))
    (fun m nx => ∃ (k : Nat) (t : Tok) (vs : List Value) (nn : Nat) (acc : List Nat), ([Str.ofString "", Str.ofString "\n", Str.ofString "\""].any fun z => z == sgn x.cps.toList[k]?) = true ∧ qscan x.cps.toList k acc = qscan x.cps.toList (i + 1) [] ∧ acc.length ≤ k ∧ k ≤ x.length ∧ PyProof.Rows.StrsAre vs (ones acc) ∧ Pins m [(Str.ofString "self", .ref sc), (Str.ofString "begin", .int i ti), (Str.ofString "pieces", .ref p)] ∧ nx = ((sc, instObj 142 dS) :: (dS, scD w.params kt ks x tx k t) :: (p, listOf (List.toArray vs) nn) :: tl))
    (x.length - (i + 1)) F₂ (cb_drop N₂ (by walk_at "own k_subset")) ⟨i + 1, _, [], 0, [], rfl, rfl, Nat.zero_le _, hi1, .nil, ⟨rfl, rfl, rfl, trivial⟩, rfl⟩ ?_ ?_
  all_goals clear F₂ N₂
  rotate_left
  · rintro h₁ tk₁ m₁ nx F₁ N₁ ⟨k, t, vs, nn, acc, hany, hqs, hac, hk', hst, hp, rfl⟩
    replace F₁ := fr_pins F₁ hp
    (try dsimp only)
    (try k_fold)
    have hvl : vs.length ≤ 400 := by rw [strs_len hst]; omega
    have hsum : ((ones acc).map (·.length)).sum + (ones acc).length ≤ 1048576 := by rw [ones_sum]; omega
    have h3 := any3_true hany
    k_steps
    · (rename (sgn _ != _) = true => hq)
      have hq' : (sgn x.cps.toList[k]? == Str.ofString "\"") = false := by simpa [bne] using hq
      have h34 := sgn_n 34 rfl hq'
      have e0 := hqs.symm.trans (q_open (by rcases h3 with h | h | h; exact .inl h; exact .inr h; exact absurd h h34))
      (rename Fr _ _ _ _ => FF); (rename News _ _ _ _ => NN); (rename @Ne Nat _ _ => ne9); (rename ∀ p ∈ _, @Ne _ _ _ => off9)
      refine ⟨_, _, _, rfl, X'.keeps FF.keep, (NN _ (.head _)).1, ?_⟩
      show wpAny _ (Around.deeper _ _) (leaving _ _) _ _ _
      exact leave_first B' FF NN (he_cons ne9 off9) fun h7 R7 U7 => hexc _ _ _ _ _ _ ⟨i, .inr ⟨e0, rfl⟩, _, _, _, _, rfl⟩ FG' U7 (R7.sub (by walk_at "own k_subset"))
    · (rename (sgn _ != _) = false => hq)
      have hq' : (sgn x.cps.toList[k]? == Str.ofString "\"") = true := by simpa [bne] using hq
      have h34 := sgn_c 34 rfl hq'
      have e0 := hqs.symm.trans (q_end h34)
      (rename News _ _ _ _ => NN)
      unfold Stop
      refine join_listW (News.isList NN (.tail _ (.tail _ (.head _)))) hst (by decide +kernel) hsum fun t7 k7 => ?_
      rw [join_ones]
      k_steps
      (rename News _ _ _ _ => NN2)
      exact hret _ _ _ _ ⟨acc, k + 1, _, _, e0, lt_of_some x h34, rfl, rfl⟩ (by k_asm) (cb_drop NN2 (by walk_at "own k_subset"))
  rintro n m₁ nx h₁ tk₁ F₁ N₁ ⟨k, t, vs, nn, acc, rfl, hqs, hac, hk', hst, hpi, rfl⟩
  replace F₁ := fr_pins F₁ hpi
  have hvl : vs.length ≤ 400 := by rw [strs_len hst]; omega
  (try k_fold)
  k_steps
  · (rename List.any _ _ = true => hany)
    (rename Fr _ _ _ _ => FF); (rename News _ _ _ _ => NN)
    exact ⟨_, _, _, _, rfl, FF, cb_drop NN (by walk_at "own k_subset"), k, t, vs, nn, acc, hany, hqs, hac, hk', hst, ⟨rfl, rfl, rfl, trivial⟩, rfl⟩
  · (rename List.any _ _ = false => hany)
    (rename (sgn _ == _) = true => hs)
    have h92 := sgn_c 92 rfl hs
    have hk1 := lt_of_some x h92
    k_steps
    · (rename List.any _ _ = true => hesc)
      (rename (sgn _ == _) = true => hn)
      have h110 := sgn_c 110 rfl hn
      have hk2 := lt_of_some x h110
      (rename Fr _ _ _ _ => FF); (rename News _ _ _ _ => NN)
      rw [List.push_toArray] at NN
      exact ⟨_, _, _, _, x.length - (k + 2), rfl, FF, NN, by omega, k + 2, _, _, _, acc ++ [10], rfl, (q_esc h92 h110 (.inl ⟨rfl, rfl⟩)).symm.trans hqs, by simp; omega, hk2, strs_snoc hst 10 _, ⟨rfl, rfl, rfl, trivial⟩, rfl⟩
    · (rename List.any _ _ = true => hesc)
      (rename (sgn _ == _) = false => hn)
      have h110 := sgn_n 110 rfl hn
      obtain ⟨c, hc, hcc⟩ : ∃ c, x.cps.toList[k + 1]? = some c ∧ (c = 34 ∨ c = 92) := by
        rcases esc_true hesc with h | h | h
        · exact absurd h h110
        · exact ⟨34, h, .inl rfl⟩
        · exact ⟨92, h, .inr rfl⟩
      have hk2 := lt_of_some x hc
      (rename Fr _ _ _ _ => FF); (rename News _ _ _ _ => NN)
      rw [List.push_toArray, hc] at NN
      exact ⟨_, _, _, _, x.length - (k + 2), rfl, FF, NN, by omega, k + 2, _, _, _, acc ++ [c], rfl, (q_esc h92 hc (hcc.elim (fun e => .inr (.inl ⟨e, e⟩)) fun e => .inr (.inr ⟨e, e⟩))).symm.trans hqs, by simp; omega, hk2, strs_snoc hst c _, ⟨rfl, rfl, rfl, trivial⟩, rfl⟩
    · (rename List.any _ _ = false => hesc)
      obtain ⟨n1, n2, n3⟩ := esc_false hesc
      have e0 := hqs.symm.trans (q_bad h92 n1 n2 n3)
      (rename News _ _ _ _ => NN)
      rw [show ((k + 1 : Nat) : Int) - 1 = (k : Int) by omega] at NN
      (rename Fr _ _ _ _ => FF); (rename News _ _ _ _ => NN); (rename @Ne Nat _ _ => ne9); (rename ∀ p ∈ _, @Ne _ _ _ => off9)
      refine ⟨_, _, _, rfl, X'.keeps FF.keep, (NN _ (.head _)).1, ?_⟩
      show wpAny _ (Around.deeper _ _) (leaving _ _) _ _ _
      exact leave_first B' FF NN (he_cons ne9 off9) fun h7 R7 U7 => hexc _ _ _ _ _ _ ⟨k, .inl e0, _, _, _, _, rfl⟩ FG' U7 (R7.sub (by walk_at "own k_subset"))
  · (rename List.any _ _ = false => hany)
    (rename (sgn _ == _) = false => hs)
    obtain ⟨c, hc, n10, n34⟩ := any3_false hany
    have n92 : c ≠ 92 := fun e => sgn_n 92 rfl hs (by rw [hc, e])
    have hk1 := lt_of_some x hc
    (rename Fr _ _ _ _ => FF); (rename News _ _ _ _ => NN)
    rw [List.push_toArray, hc] at NN
    refine ⟨_, _, _, _, x.length - (k + 1), rfl, FF, NN, by omega, k + 1, _, _, _, acc ++ [c], rfl, (q_go hc n34 n10 n92).symm.trans hqs, by simp; omega, hk1, strs_snoc hst c _, ⟨rfl, rfl, rfl, trivial⟩, rfl⟩
end
end Mine
namespace Mine
section
def isWrd (c : Nat) : Bool := isLet c || isDig c
abbrev LETT : Str := Str.ofString "abcdefghijklmnopqrstuvwxyzABCDEFGHIJKLMNOPQRSTUVWXYZ_"
abbrev DIGI : Str := Str.ofString "0123456789"
theorem small_list (l : List Nat) (p : Nat → Bool) (hl : ∀ c ∈ l, c < 128) (hp : ∀ c, 128 ≤ c → p c = false) (h : ∀ c, c < 128 → l.contains c = p c) (c : Nat) : l.contains c = p c := by
  by_cases hc : c < 128
  · exact h c hc
  · rw [hp c (by omega)]
    cases e : l.contains c with
    | false => rfl
    | true => exact absurd (hl c (by simpa using e)) hc
theorem let_big (c : Nat) (h : 128 ≤ c) : isLet c = false := by
  unfold isLet
  simp only [← Bool.decide_and, ← Bool.decide_or, decide_eq_false_iff_not]
  omega
theorem dig_big (c : Nat) (h : 128 ≤ c) : isDig c = false := by
  unfold isDig
  simp only [← Bool.decide_and, decide_eq_false_iff_not]
  omega
theorem occ_let (c : Nat) : (PySem.Builtin.Str.occurrences LETT ⟨#[c]⟩ 0 LETT.length 1).isEmpty = !isLet c := by
  rw [occ_one LETT LETT.cps.toList rfl c]
  congr 1
  exact small_list _ _ (by decide +kernel) let_big (by decide +kernel) c
theorem occ_wrd (c : Nat) : (PySem.Builtin.Str.occurrences (LETT ++ DIGI) ⟨#[c]⟩ 0 (LETT ++ DIGI).length 1).isEmpty = !isWrd c := by
  rw [occ_one (LETT ++ DIGI) (LETT ++ DIGI).cps.toList rfl c]
  congr 1
  exact small_list _ _ (by decide +kernel) (fun c h => by rw [isWrd, let_big c h, dig_big c h]; rfl) (by decide +kernel) c
inductive TR where
  | tok (ds : List Dat) (k : Nat)
  | bad (j : Nat)
def stokAt (l : List Nat) (b c : Nat) : TR :=
  if c = 34 then (match qscan l (b + 1) [] with
    | .ok acc k => .tok [.str (Str.ofString "text"), .str (strOf acc), .int b] k
    | .slash j => .bad j
    | .open_ => .bad b)
  else if c = 45 ∨ isDig c = true then (if numD l b = [] then .bad b else .tok [.str (Str.ofString "number"), .int (numV l b), .int b] (upto isDig l (numS l b)))
  else if isLet c = true then .tok [.str (Str.ofString "word"), .str (strOf ((l.drop b).takeWhile isWrd)), .int b] (upto isWrd l b)
  else if c = 46 ∧ l[b + 1]? = some 46 then .tok [.str (Str.ofString "sign"), .str (Str.ofString ".."), .int b] (b + 2)
  else if isMrk c = true then .tok [.str (Str.ofString "sign"), .str ⟨#[c]⟩, .int b] (b + 1)
  else .bad b
def stok (l : List Nat) (i : Nat) : TR :=
  match l[skipTo l i]? with
  | none => .tok [.str (Str.ofString "end"), .str (Str.ofString ""), .int (skipTo l i)] (skipTo l i)
  | some c => stokAt l (skipTo l i) c
theorem skipFrom_le (l : List Nat) : ∀ j, j ≤ l.length → skipFrom l j ≤ l.length := by
  intro j
  induction j using skipFrom.induct (l := l) with
  | case1 j h ih =>
    intro hj
    rw [← skip_yes h]
    exact ih (upto_le (upto_le hj))
  | case2 j h => intro hj; rw [skip_no h]; exact hj
theorem skipTo_le (x : Str) {i : Nat} (hi : i ≤ x.length) : skipTo x.cps.toList i ≤ x.length := by
  rw [← len_list] at hi ⊢
  exact skipFrom_le _ _ (upto_le hi)
section
variable {l : List Nat} {i c : Nat}
theorem sgn_some {o : Option Nat} (h : (sgn o == Str.ofString "") = false) : ∃ c, o = some c := by
  cases o with
  | none => exact absurd h (by decide +kernel)
  | some c => exact ⟨c, rfl⟩
theorem sgn_none {o : Option Nat} (h : (sgn o == Str.ofString "") = true) : o = none := by
  cases o with
  | none => rfl
  | some c => rw [show sgn (some c) = ⟨#[c]⟩ from rfl, one_empty] at h; cases h
theorem stok_none (h : (sgn l[skipTo l i]? == Str.ofString "") = true) : stok l i = .tok [.str (Str.ofString "end"), .str (Str.ofString ""), .int (skipTo l i)] (skipTo l i) := by
  rw [stok, sgn_none h]
theorem stok_some (h : l[skipTo l i]? = some c) : stok l i = stokAt l (skipTo l i) c := by rw [stok, h]
theorem occ_sgn {y : Str} {p : Nat → Bool} {o : Option Nat} {b : Bool} (hp : ∀ c, (PySem.Builtin.Str.occurrences y ⟨#[c]⟩ 0 y.length 1).isEmpty = !p c) (hc : o = some c) (h : (PySem.Builtin.Str.occurrences y (sgn o) 0 y.length 1).isEmpty = b) : p c = !b := by
  subst hc
  rw [← h, show sgn (some c) = ⟨#[c]⟩ from rfl, hp, Bool.not_not]
variable (hc : l[skipTo l i]? = some c)
include hc
theorem stok_quo_ok {acc : List Nat} {k : Nat} (h : (sgn l[skipTo l i]? == Str.ofString "\"") = true) (hq : qscan l (skipTo l i + 1) [] = .ok acc k) : stok l i = .tok [.str (Str.ofString "text"), .str (strOf acc), .int (skipTo l i)] k := by
  have e : c = 34 := Option.some.inj (hc.symm.trans (sgn_c 34 rfl h))
  rw [stok_some hc, stokAt, if_pos e, hq]
theorem stok_quo_bad {j : Nat} (h : (sgn l[skipTo l i]? == Str.ofString "\"") = true) (hq : qscan l (skipTo l i + 1) [] = .slash j ∨ qscan l (skipTo l i + 1) [] = .open_ ∧ j = skipTo l i) : stok l i = .bad j := by
  have e : c = 34 := Option.some.inj (hc.symm.trans (sgn_c 34 rfl h))
  rw [stok_some hc, stokAt, if_pos e]
  rcases hq with hq | ⟨hq, hj⟩
  · rw [hq]
  · rw [hq, hj]
variable (h34 : (sgn l[skipTo l i]? == Str.ofString "\"") = false)
include h34
theorem not34 : c ≠ 34 := fun e => sgn_n 34 rfl h34 (by rw [hc, e])
theorem stok_num (h : c = 45 ∨ isDig c = true) (hn : numD l (skipTo l i) ≠ []) : stok l i = .tok [.str (Str.ofString "number"), .int (numV l (skipTo l i)), .int (skipTo l i)] (upto isDig l (numS l (skipTo l i))) := by
  rw [stok_some hc, stokAt, if_neg (not34 hc h34), if_pos h, if_neg hn]
theorem stok_num_bad (h : c = 45 ∨ isDig c = true) (hn : numD l (skipTo l i) = []) : stok l i = .bad (skipTo l i) := by
  rw [stok_some hc, stokAt, if_neg (not34 hc h34), if_pos h, if_pos hn]
variable (h45 : (sgn l[skipTo l i]? == Str.ofString "-") = false) (hd : isDig c = false)
include h45 hd
theorem notnum : ¬ (c = 45 ∨ isDig c = true) := by
  rintro (e | e)
  · exact sgn_n 45 rfl h45 (by rw [hc, e])
  · rw [hd] at e; cases e
theorem stok_word (h : isLet c = true) : stok l i = .tok [.str (Str.ofString "word"), .str (strOf ((l.drop (skipTo l i)).takeWhile isWrd)), .int (skipTo l i)] (upto isWrd l (skipTo l i)) := by
  rw [stok_some hc, stokAt, if_neg (not34 hc h34), if_neg (notnum hc h34 h45 hd), if_pos h]
variable (hl : isLet c = false)
include hl
theorem notlet : ¬ isLet c = true := by rw [hl]; exact Bool.false_ne_true
theorem stok_dots (h : c = 46 ∧ l[skipTo l i + 1]? = some 46) : stok l i = .tok [.str (Str.ofString "sign"), .str (Str.ofString ".."), .int (skipTo l i)] (skipTo l i + 2) := by
  rw [stok_some hc, stokAt, if_neg (not34 hc h34), if_neg (notnum hc h34 h45 hd), if_neg (notlet hc h34 h45 hd hl), if_pos h]
variable (hnd : ¬ (c = 46 ∧ l[skipTo l i + 1]? = some 46))
include hnd
theorem stok_mark (h : isMrk c = true) : stok l i = .tok [.str (Str.ofString "sign"), .str (sgn l[skipTo l i]?), .int (skipTo l i)] (skipTo l i + 1) := by
  rw [stok_some hc, stokAt, if_neg (not34 hc h34), if_neg (notnum hc h34 h45 hd), if_neg (notlet hc h34 h45 hd hl), if_neg hnd, if_pos h, hc]
  rfl
theorem stok_odd (h : isMrk c = false) : stok l i = .bad (skipTo l i) := by
  rw [stok_some hc, stokAt, if_neg (not34 hc h34), if_neg (notnum hc h34 h45 hd), if_neg (notlet hc h34 h45 hd hl), if_neg hnd, if_neg (by rw [h]; exact Bool.false_ne_true)]
end
theorem slice_two (x : Str) {b c : Nat} (hb : b ≤ x.length) (hc : x.cps.toList[b]? = some c) : (Txt.slice x (some (b : Int)) (some ((b : Int) + 2)) == Str.ofString "..") = decide (c = 46 ∧ x.cps.toList[b + 1]? = some 46) := by
  have h := slice_any x (Nat.le_add_right b 2) hb
  rw [show ((b + 2 : Nat) : Int) = (b : Int) + 2 from rfl, Nat.add_sub_cancel_left] at h
  rw [h]
  obtain ⟨hb', e⟩ := List.getElem?_eq_some_iff.mp hc
  rw [List.drop_eq_getElem_cons hb', e]
  have hd : (Str.ofString "..") = ⟨[46, 46].toArray⟩ := by decide +kernel
  rw [hd]
  have key : ∀ (a b : List Nat), ((⟨a.toArray⟩ : Str) == ⟨b.toArray⟩) = decide (a = b) := by
    intro a b
    by_cases h : a = b
    · subst h; simp
    · rw [decide_eq_false h, beq_eq_false_iff_ne]
      intro e
      injection e with e
      injection e with e
      exact h e
  rw [key]
  apply decide_eq_decide.mpr
  cases h1 : x.cps.toList[b + 1]? with
  | none =>
    rw [List.drop_eq_nil_of_le (List.getElem?_eq_none_iff.mp h1)]
    simp
  | some d =>
    obtain ⟨hb1, e1⟩ := List.getElem?_eq_some_iff.mp h1
    rw [List.drop_eq_getElem_cons hb1, e1]
    simp
theorem numS_le (x : Str) {b c : Nat} (hb : b ≤ x.length) (hc : x.cps.toList[b]? = some c) : upto isDig x.cps.toList (numS x.cps.toList b) ≤ x.length := by
  rw [← len_list]
  apply upto_le
  have := lt_of_some x hc
  rw [len_list, numS]
  split <;> omega
end
end Mine
namespace Mine
section
theorem fresh_TokS : True := by w_top off; trivial
set_option maxHeartbeats 1000000
local macro_rules | `(tactic| k_all) => `(tactic| assumption)
local macro_rules | `(tactic| walk_at "own lt_of") => `(tactic| (first | assumption | (rename @LT.lt Nat _ _ _ ∧ _ => nn; with_reducible first | exact nn.1 | exact nn.2.1 | exact nn.2.2 | exact nn.2.2.1 | exact nn.2.2.2 | exact nn.2.2.2.1 | exact nn.2.2.2.2 | exact nn.2.2.2.2.1 | exact nn.2.2.2.2.2)))
local macro_rules | `(tactic| walk_at "exec Raise some none") => `(tactic| (k_here; (rename World => wX); k_dflt (refine' raise_fault (World.params wX) (by rfl) ?_)))
local macro_rules | `(tactic| walk_at "binaryOp Add int int") => `(tactic| (k_here; (with_reducible refine add_nat ?_)))
local macro_rules | `(tactic| walk_at "call ref") => `(tactic| (k_here; k_dflt (first
  | (refine' spec_use (skip_spec _ _ _ _ _ _ _ _ _ _ _ _ ?hi ?hx _ ?ne ?off) ?B ?F ?X ?N ?T ?hk ?hd ?hu ?_; (case B => k_asm); (case F => k_asm); (case X => k_asm); (case N => first | k_asm | (rename News _ _ _ _ => NN; have N8 := cb_tail NN; first | k_asm | (have N7 := cb_tail N8; k_asm))); (case T => k_asm); (case hi => first | assumption | omega); (case hx => assumption); (case ne => assumption); (case off => first | assumption | exact off_cons (by assumption) (by assumption)); (case hk => first | exact rfl | assumption); (case hd => ktr_room); (case hu => ktr_units); intro v9 n9 h9 tk9 P9 F9 N9; obtain ⟨e8, t9, e9⟩ := P9; subst e9; subst e8)
  | (refine' spec_use (sign_spec _ _ _ _ _ _ _ _ _ _ _ _ ?hi ?hx _ ?ne ?off) ?B ?F ?X ?N ?T ?hk ?hd ?hu ?_; (case B => k_asm); (case F => k_asm); (case X => k_asm); (case N => first | k_asm | (rename News _ _ _ _ => NN; have N8 := cb_tail NN; first | k_asm | (have N7 := cb_tail N8; k_asm))); (case T => k_asm); (case hi => first | assumption | omega); (case hx => assumption); (case ne => assumption); (case off => first | assumption | exact off_cons (by assumption) (by assumption)); (case hk => first | exact rfl | assumption); (case hd => ktr_room); (case hu => ktr_units); intro v9 n9 h9 tk9 P9 F9 N9; obtain ⟨e9, t9, e8⟩ := P9; subst e9; subst e8)
  | (refine' spec_use (fault_made _ _ _ _ _ _ _ _ _) ?B ?F ?X ?N ?T ?hk ?hd ?hu ?_; (case B => k_asm); (case F => k_asm); (case X => k_asm); (case N => first | k_asm | (rename News _ _ _ _ => NN; have N8 := cb_tail NN; first | k_asm | (have N7 := cb_tail N8; k_asm))); (case T => k_asm);  (case hk => first | exact rfl | assumption); (case hd => ktr_room); (case hu => ktr_units); intro v9 n9 h9 tk9 P9 F9 N9; obtain ⟨e9, d9, t9, kw9, ks9, e8, e7, off9, ne9⟩ := P9; subst e8; subst e7)
  | (refine' spec_useX (number_spec _ _ _ _ _ _ _ _ _ _ _ _ ?hi ?hx _ ?ne ?off) ?B ?F ?X ?N ?T ?hk ?hd ?hu ?_ ?_; (case B => k_asm); (case F => k_asm); (case X => k_asm); (case N => first | k_asm | (rename News _ _ _ _ => NN; have N8 := cb_tail NN; first | k_asm | (have N7 := cb_tail N8; k_asm))); (case T => k_asm); (case hi => first | assumption | omega); (case hx => assumption); (case ne => assumption); (case off => first | assumption | exact off_cons (by assumption) (by assumption)); (case hk => first | exact rfl | assumption); (case hd => ktr_room); (case hu => ktr_units); rotate_left; (intro e9 d9 n9 h9 tk9 g9 xp9 F9 U9 R9); rotate_left; intro v9 n9 h9 tk9 P9 F9 N9; obtain ⟨ne9, t9, u9, e9, e8⟩ := P9; subst e9; subst e8)
  | (refine' spec_useX (quotation_spec _ _ _ _ _ _ _ _ _ _ _ _ ?hi ?hx _ ?ne ?off ?h1) ?B ?F ?X ?N ?T ?hk ?hd ?hu ?_ ?_; (case B => k_asm); (case F => k_asm); (case X => k_asm); (case N => first | k_asm | (rename News _ _ _ _ => NN; have N8 := cb_tail NN; first | k_asm | (have N7 := cb_tail N8; k_asm))); (case T => k_asm); (case hi => first | assumption | omega); (case hx => assumption); (case ne => assumption); (case off => first | assumption | exact off_cons (by assumption) (by assumption)); (case h1 => assumption); (case hk => first | exact rfl | assumption); (case hd => ktr_room); (case hu => ktr_units); rotate_left; (intro e9 d9 n9 h9 tk9 g9 xp9 F9 U9 R9); rotate_left; intro v9 n9 h9 tk9 P9 F9 N9; obtain ⟨acc9, k9, t9, u9, q9, kl9, e9, e8⟩ := P9; subst e9; subst e8)
  | (refine' spec_use (run_of_spec _ _ _ _ _ _ isWrd occ_wrd _ _ _ _ _ _ _ _ ?hi ?hx _ ?ne ?off) ?B ?F ?X ?N ?T ?hk ?hd ?hu ?_; (case B => k_asm); (case F => k_asm); (case X => k_asm); (case N => first | k_asm | (rename News _ _ _ _ => NN; have N8 := cb_tail NN; first | k_asm | (have N7 := cb_tail N8; k_asm))); (case T => k_asm); (case hi => first | assumption | omega); (case hx => assumption); (case ne => assumption); (case off => first | assumption | exact off_cons (by assumption) (by assumption)); (case hk => first | exact rfl | assumption); (case hd => ktr_room); (case hu => ktr_units); intro v9 n9 h9 tk9 P9 F9 N9; obtain ⟨t9, u9, e9, e8⟩ := P9; subst e9; subst e8)); (try dsimp only); (try k_fold)))
local macro_rules | `(tactic| walk_at "formatField str") => `(tactic| (k_here; k_dflt (refine SB.field_str ?_ (Nat.le_trans (sgn_len _) (by rw [sizeLine_eq]; decide))); intro t9 k9))
theorem token_spec (w : World) (mean : ExcName → Option Value) (mg mb : Str → Option Value) (sc dS : Nat) (x : Str) (kt ks tx ti : Tok) (i : Nat) (hi : i ≤ x.length) (hx : x.length ≤ 400) (tl : Led) (hne : @Ne Nat sc dS) (hoff : ∀ p ∈ tl, p.1 ≠ dS) :
   SpecX w mean mg mb 139 [.ref sc] ((sc, instObj 142 dS) :: (dS, scD w.params kt ks x tx i ti) :: tl) 160 400 (fun v n' => ∃ ds k T ws t', stok x.cps.toList i = .tok ds k ∧ k ≤ x.length ∧ v = .ref T ∧ n' = (T, tupOf (List.toArray ws) 0) :: ((sc, instObj 142 dS) :: (dS, scD w.params kt ks x tx k t') :: tl) ∧ DatAll [] ws ds ∧ ∀ p ∈ tl, @LT.lt Nat _ p.1 T) (fun dx n' => ∃ j : Nat, stok x.cps.toList i = .bad j ∧ XF w.params j tl dx n') := by
  have hb := skipTo_le x hi
  have hso := sgn_len x.cps.toList[skipTo x.cps.toList i]?
  unfold SpecX
  k_fill
  intro dp un gd cn cs a ccd cl outer A₀ base h₀ L m s Q E B F X N T hk hd hu hret hexc
  refine wpAny_call ?_
  k_dflt (refine' code_def (binds := [(Str.ofString "self", .ref sc)]) ?k1 ?k2 ?k3 ?k4 ?k5 ?kA ?kF ?kK ?k6 ?k7 ?k8 ?k9 ?kB ?_ ?c2 ?c3 ?c4 ?c5)
  (case kA => exact rfl)
  (case kF => exact rfl)
  (case kK => assumption)
  (case k1 => k_asm)
  (case k2 => k_asm)
  (case k3 => k_asm)
  (case k4 => k_asm)
  (case k5 => k_asm)
  (case k6 => k_is)
  (case k7 => k_is)
  (case k8 => ktr_room)
  (case k9 => k_dflt (exact BindsTo.of_eq rfl))
  (case c5 => decide)
  (case kB => exact locs rfl)
  (case c2 => exact rfl)
  (case c3 => exact rfl)
  (case c4 => exact rfl)
  intro g' L' h' FG' F' N' B' X' T'
  (try dsimp only)
  (try k_fold)

  k_steps
  · (rename (sgn _ == Str.ofString "") = true => hs)
    (rename News _ _ _ _ => NN)
    exact hret _ _ _ _ ⟨_, _, _, _, _, stok_none hs, hb, rfl, rfl, .cons (.str _ _) (.cons (.str _ _) (.cons (.int _ _) .nil)), ktn_ltOf (by walk_at "own lt_of")⟩ (by k_asm) (cb_drop NN (by walk_at "own k_subset"))
  ·
    (rename (sgn _ == Str.ofString "") = false => hs)
    obtain ⟨c, hc⟩ := sgn_some hs
    (rename (sgn _ == Str.ofString "\"") = true => h34)
    have h1 := lt_of_some x hc
    k_steps
    · (rename qscan _ _ _ = _ => hq); (rename _ ≤ x.length => hk9)
      (rename News _ _ _ _ => NN)
      exact hret _ _ _ _ ⟨_, _, _, _, _, stok_quo_ok hc h34 hq, hk9, rfl, rfl, .cons (.str _ _) (.cons (.str _ _) (.cons (.int _ _) .nil)), ktn_ltOf (by walk_at "own lt_of")⟩ (by k_asm) (cb_drop NN (by walk_at "own k_subset"))
    · (rename ∃ j : Nat, _ ∧ XF _ _ _ _ _ => xp); obtain ⟨j, hj, xp⟩ := xp
      (rename Fr _ _ _ _ => FF); (rename Heap.UpToSlots _ _ => UU); (rename RaisedF _ _ _ _ _ _ => RR)
      exact leave_next B' FF RR UU fun h7 R7 U7 => hexc _ _ _ _ _ _ ⟨_, stok_quo_bad hc h34 hj, xp⟩ FG' U7 R7
  ·
    (rename (sgn _ == Str.ofString "") = false => hs)
    obtain ⟨c, hc⟩ := sgn_some hs
    (rename (sgn _ == Str.ofString "\"") = false => h34)
    (rename (sgn _ == Str.ofString "-") = true => h45)
    (rename numD _ _ ≠ [] => hn)
    have e45 : c = 45 := Option.some.inj (hc.symm.trans (sgn_c 45 rfl h45))
    (rename News _ _ _ _ => NN)
    exact hret _ _ _ _ ⟨_, _, _, _, _, stok_num hc h34 (.inl e45) hn, numS_le x hb hc, rfl, rfl, .cons (.str _ _) (.cons (.int _ _) (.cons (.int _ _) .nil)), ktn_ltOf (by walk_at "own lt_of")⟩ (by k_asm) (cb_drop NN (by walk_at "own k_subset"))
  ·
    (rename (sgn _ == Str.ofString "") = false => hs)
    obtain ⟨c, hc⟩ := sgn_some hs
    (rename (sgn _ == Str.ofString "\"") = false => h34)
    (rename (sgn _ == Str.ofString "-") = true => h45)
    (rename numD _ _ = [] ∧ _ => hn)
    have e45 : c = 45 := Option.some.inj (hc.symm.trans (sgn_c 45 rfl h45))
    (rename Fr _ _ _ _ => FF); (rename Heap.UpToSlots _ _ => UU); (rename RaisedF _ _ _ _ _ _ => RR)
    exact leave_next B' FF RR UU fun h7 R7 U7 => hexc _ _ _ _ _ _ ⟨_, stok_num_bad hc h34 (.inl e45) hn.1, hn.2⟩ FG' U7 R7
  ·
    (rename (sgn _ == Str.ofString "") = false => hs)
    obtain ⟨c, hc⟩ := sgn_some hs
    (rename (sgn _ == Str.ofString "\"") = false => h34)
    (rename (sgn _ == Str.ofString "-") = false => h45)
    (rename (PySem.Builtin.Str.occurrences (Str.ofString "0123456789") _ _ _ _).isEmpty = _ => o_od)
    have od := occ_sgn (fun c => occ_dig (c := c)) hc o_od
    (rename (PySem.Builtin.Str.occurrences (Str.ofString "abcdefghijklmnopqrstuvwxyzABCDEFGHIJKLMNOPQRSTUVWXYZ_") _ _ _ _).isEmpty = _ => o_ol)
    have ol := occ_sgn occ_let hc o_ol
    (rename (Txt.slice _ _ _ == _) = _ => hdots)
    rw [slice_two x hb hc] at hdots
    have hd := of_decide_eq_true hdots
    (rename News _ _ _ _ => NN)
    rw [show ((skipTo x.cps.toList i : Nat) : Int) + 2 = ((skipTo x.cps.toList i + 2 : Nat) : Int) from rfl] at NN
    exact hret _ _ _ _ ⟨_, _, _, _, _, stok_dots hc h34 h45 od ol hd, lt_of_some x hd.2, rfl, rfl, .cons (.str _ _) (.cons (.str _ _) (.cons (.int _ _) .nil)), ktn_ltOf (by walk_at "own lt_of")⟩ (by k_asm) (cb_drop NN (by walk_at "own k_subset"))
  ·
    (rename (sgn _ == Str.ofString "") = false => hs)
    obtain ⟨c, hc⟩ := sgn_some hs
    (rename (sgn _ == Str.ofString "\"") = false => h34)
    (rename (sgn _ == Str.ofString "-") = false => h45)
    (rename (PySem.Builtin.Str.occurrences (Str.ofString "0123456789") _ _ _ _).isEmpty = _ => o_od)
    have od := occ_sgn (fun c => occ_dig (c := c)) hc o_od
    (rename (PySem.Builtin.Str.occurrences (Str.ofString "abcdefghijklmnopqrstuvwxyzABCDEFGHIJKLMNOPQRSTUVWXYZ_") _ _ _ _).isEmpty = _ => o_ol)
    have ol := occ_sgn occ_let hc o_ol
    (rename (PySem.Builtin.Str.occurrences (Str.ofString "()[]{},;:") _ _ _ _).isEmpty = _ => o_om)
    have om := occ_sgn occ_mrk hc o_om
    (rename (Txt.slice _ _ _ == _) = _ => hdots)
    rw [slice_two x hb hc] at hdots
    have hd := of_decide_eq_false hdots
    (rename Fr _ _ _ _ => FF); (rename News _ _ _ _ => NN); (rename @Ne Nat _ _ => ne9); (rename ∀ p ∈ _, @Ne _ _ _ => off9)
    refine ⟨_, _, _, rfl, X'.keeps FF.keep, (NN _ (.head _)).1, ?_⟩
    show wpAny _ (Around.deeper _ _) (leaving _ _) _ _ _
    exact leave_first B' FF NN (he_cons ne9 off9) fun h7 R7 U7 => hexc _ _ _ _ _ _ ⟨_, stok_odd hc h34 h45 od ol hd om, _, _, _, _, rfl⟩ FG' U7 (R7.sub (by walk_at "own k_subset"))
  ·
    (rename (sgn _ == Str.ofString "") = false => hs)
    obtain ⟨c, hc⟩ := sgn_some hs
    (rename (sgn _ == Str.ofString "\"") = false => h34)
    (rename (sgn _ == Str.ofString "-") = false => h45)
    (rename (PySem.Builtin.Str.occurrences (Str.ofString "0123456789") _ _ _ _).isEmpty = _ => o_od)
    have od := occ_sgn (fun c => occ_dig (c := c)) hc o_od
    (rename (PySem.Builtin.Str.occurrences (Str.ofString "abcdefghijklmnopqrstuvwxyzABCDEFGHIJKLMNOPQRSTUVWXYZ_") _ _ _ _).isEmpty = _ => o_ol)
    have ol := occ_sgn occ_let hc o_ol
    (rename (PySem.Builtin.Str.occurrences (Str.ofString "()[]{},;:") _ _ _ _).isEmpty = _ => o_om)
    have om := occ_sgn occ_mrk hc o_om
    (rename (Txt.slice _ _ _ == _) = _ => hdots)
    rw [slice_two x hb hc] at hdots
    have hd := of_decide_eq_false hdots
    (rename News _ _ _ _ => NN)
    exact hret _ _ _ _ ⟨_, _, _, _, _, stok_mark hc h34 h45 od ol hd om, lt_of_some x hc, rfl, rfl, .cons (.str _ _) (.cons (.str _ _) (.cons (.int _ _) .nil)), ktn_ltOf (by walk_at "own lt_of")⟩ (by k_asm) (cb_drop NN (by walk_at "own k_subset"))
  ·
    (rename (sgn _ == Str.ofString "") = false => hs)
    obtain ⟨c, hc⟩ := sgn_some hs
    (rename (sgn _ == Str.ofString "\"") = false => h34)
    (rename (sgn _ == Str.ofString "-") = false => h45)
    (rename (PySem.Builtin.Str.occurrences (Str.ofString "0123456789") _ _ _ _).isEmpty = _ => o_od)
    have od := occ_sgn (fun c => occ_dig (c := c)) hc o_od
    (rename (PySem.Builtin.Str.occurrences (Str.ofString "abcdefghijklmnopqrstuvwxyzABCDEFGHIJKLMNOPQRSTUVWXYZ_") _ _ _ _).isEmpty = _ => o_ol)
    have ol := occ_sgn occ_let hc o_ol
    (rename News _ _ _ _ => NN)
    exact hret _ _ _ _ ⟨_, _, _, _, _, stok_word hc h34 h45 od ol, (by rw [← len_list]; exact upto_le (by rw [len_list]; exact hb)), rfl, rfl, .cons (.str _ _) (.cons (.str _ _) (.cons (.int _ _) .nil)), ktn_ltOf (by walk_at "own lt_of")⟩ (by k_asm) (cb_drop NN (by walk_at "own k_subset"))
  ·
    (rename (sgn _ == Str.ofString "") = false => hs)
    obtain ⟨c, hc⟩ := sgn_some hs
    (rename (sgn _ == Str.ofString "\"") = false => h34)
    (rename (PySem.Builtin.Str.occurrences (Str.ofString "0123456789") _ _ _ _).isEmpty = _ => o_od)
    have od := occ_sgn (fun c => occ_dig (c := c)) hc o_od
    (rename numD _ _ ≠ [] => hn)
    (rename News _ _ _ _ => NN)
    exact hret _ _ _ _ ⟨_, _, _, _, _, stok_num hc h34 (.inr od) hn, numS_le x hb hc, rfl, rfl, .cons (.str _ _) (.cons (.int _ _) (.cons (.int _ _) .nil)), ktn_ltOf (by walk_at "own lt_of")⟩ (by k_asm) (cb_drop NN (by walk_at "own k_subset"))
  ·
    (rename (sgn _ == Str.ofString "") = false => hs)
    obtain ⟨c, hc⟩ := sgn_some hs
    (rename (sgn _ == Str.ofString "\"") = false => h34)
    (rename (PySem.Builtin.Str.occurrences (Str.ofString "0123456789") _ _ _ _).isEmpty = _ => o_od)
    have od := occ_sgn (fun c => occ_dig (c := c)) hc o_od
    (rename numD _ _ = [] ∧ _ => hn)
    (rename Fr _ _ _ _ => FF); (rename Heap.UpToSlots _ _ => UU); (rename RaisedF _ _ _ _ _ _ => RR)
    exact leave_next B' FF RR UU fun h7 R7 U7 => hexc _ _ _ _ _ _ ⟨_, stok_num_bad hc h34 (.inr od) hn.1, hn.2⟩ FG' U7 R7
end
end Mine
namespace Mine
section
theorem fresh_TextS : True := by w_top off; trivial
set_option maxHeartbeats 1000000
local macro_rules | `(tactic| walk_at "own lt_of") => `(tactic| (first | assumption | (rename @LT.lt Nat _ _ _ ∧ _ => nn; with_reducible first | exact nn.1 | exact nn.2.1 | exact nn.2.2 | exact nn.2.2.1 | exact nn.2.2.2 | exact nn.2.2.2.1 | exact nn.2.2.2.2 | exact nn.2.2.2.2.1 | exact nn.2.2.2.2.2)))
theorem strs_snocs {us : List Value} {ys : List Str} (h : PyProof.Rows.StrsAre us ys) (y : Str) (t : Tok) : PyProof.Rows.StrsAre (us ++ [.str y t]) (ys ++ [y]) := by
  induction h with
  | nil => exact .cons _ _ .nil
  | cons z u _ ih => exact .cons _ _ ih
def sm (y : Str) : Bool := decide (y.length ≤ 9) && PyData.strOk y
theorem sm_len {y : Str} (h : sm y = true) : y.length ≤ 9 := by
  unfold sm at h
  rw [Bool.and_eq_true, decide_eq_true_eq] at h
  exact h.1
theorem sm_ok {y : Str} (h : sm y = true) : PyData.strOk y = true := by
  unfold sm at h
  rw [Bool.and_eq_true] at h
  exact h.2
theorem all9 {ys : List Str} {y : Str} (h : ∀ z ∈ ys, sm z = true) (hy : sm y = true) : ∀ z ∈ ys ++ [y], sm z = true := by
  intro z hz
  rcases List.mem_append.mp hz with hz | hz
  · exact h z hz
  · rw [List.mem_singleton.mp hz]; exact hy
theorem getD9 (l : List Str) (h : ∀ y ∈ l, sm y = true) (k : Nat) : sm (l.getD k PySem.Str.empty) = true := by
  rw [List.getD_eq_getElem?_getD]
  cases e : l[k]? with
  | none => decide +kernel
  | some y => exact h y (List.mem_of_getElem? e)
theorem sum9 {ys : List Str} (h : ∀ z ∈ ys, sm z = true) : (ys.map (·.length)).sum ≤ 9 * ys.length := by
  induction ys with
  | nil => simp
  | cons y r ih =>
    have h1 := sm_len (h y (.head _))
    have h2 := ih fun z hz => h z (.tail _ hz)
    simp only [List.map_cons, List.sum_cons, List.length_cons]
    omega
theorem strOk_app {x y : Str} (hx : PyData.strOk x = true) (hy : PyData.strOk y = true) : PyData.strOk (x ++ y) = true := by
  unfold PyData.strOk at *
  show (x.cps ++ y.cps).all _ = true
  rw [Array.all_append, hx, hy]
  rfl
theorem join_ok : ∀ {ys : List Str}, (∀ z ∈ ys, sm z = true) → PyData.strOk (PySem.Str.join (Str.ofString "") ys) = true
  | [], _ => by decide +kernel
  | [y], h => sm_ok (h y (.head _))
  | y :: z :: r, h => by
    show PyData.strOk (y ++ Str.ofString "" ++ PySem.Str.join (Str.ofString "") (z :: r)) = true
    exact strOk_app (strOk_app (sm_ok (h y (.head _))) (by decide +kernel)) (join_ok fun q hq => h q (.tail _ hq))
theorem ints_at {vs : List Value} {ns : List Int} (h : IntsAre vs ns) {i : Nat} {v : Value} (hv : vs[i]? = some v) : ∃ n t, v = .int n t := by
  have hi : i < ns.length := by rw [← h.length]; exact (List.getElem?_eq_some_iff.mp hv).1
  obtain ⟨t, hx⟩ := h.get i (ns[i]'hi) (List.getElem?_eq_getElem hi)
  rw [hx] at hv
  exact ⟨_, t, (Option.some.inj hv).symm⟩
theorem strs_length {us : List Value} {ys : List Str} (h : PyProof.Rows.StrsAre us ys) : us.length = ys.length := by
  induction h with
  | nil => rfl
  | cons y t _ ih => rw [List.length_cons, List.length_cons, ih]
local macro_rules | `(tactic| walk_at "exec For Name Name cons nil") => `(tactic| (k_here; (rename Fr _ _ _ _ => lF'); (with_unfolding_all refine' For_invVF lF' ?k1 ?k2 ?_; (case k1 => exact rfl); (case k2 => exact rfl); k_whole)))
local macro_rules | `(tactic| walk_at "pyIter ref") => `(tactic| (refine Stop.of ?_))
local macro_rules | `(tactic| walk_at "call builtin:str.join") => `(tactic| (refine Stop.of ?_))
theorem text_spec (w : World) (mean : ExcName → Option Value) (mg mb : Str → Option Value) (sl : Addr) (vs : List Value) (ns : List Int) (hI : IntsAre vs ns) (hn : ns.length ≤ 63) :
  ∀ (dp un : Nat) (gd : Option (List Code)) (cn : Str) (cs : Scope) (a : Addr) (ccd : Value) (cl : List (Str × Addr)) (outer : List Env) (A₀ : Around) (base h₀ : Heap) (L : Addr) (m : Str → Option Value) (s : Shared) (Q E : Value → Shared → Prop),
    Below A₀ base outer h₀ → Fr h₀ L s.heap m → (hd.heap_39 w.params).In h₀ → News h₀ L s.heap [] → Top hd.view_39 (looseW hd.view_39 [Str.ofString "_law_good", Str.ofString "_law_odd"]) mean mg mb h₀ → cs.kind = .function → dp + 40 < recursionLimit → un + 100 < cLine → h₀.IsList sl vs.toArray →
    (∀ x t h' tk', (x.length ≤ 400 ∧ PyData.strOk x = true) → Fr h₀ L h' m → News h₀ L h' [] → Q (.str x t) { s with heap := h', toks := tk' }) →
    wpAny (model PySem.Challenge.rw_nz0006_01.row.prog w) (ktrTop dp un gd cn cs L a ccd cl outer) (call (.ref 155) [.ref sl]) Q E s := by
  k_fill
  intro dp un gd cn cs a ccd cl outer A₀ base h₀ L m s Q E B F X N T hk hd hu hl hret
  refine wpAny_call ?_
  k_dflt (refine' code_def (binds := [(Str.ofString "script", .ref sl)]) ?k1 ?k2 ?k3 ?k4 ?k5 ?kA ?kF ?kK ?k6 ?k7 ?k8 ?k9 ?kB ?_ ?c2 ?c3 ?c4 ?c5)
  (case kA => exact rfl)
  (case kF => exact rfl)
  (case kK => assumption)
  (case k1 => k_asm)
  (case k2 => k_asm)
  (case k3 => k_asm)
  (case k4 => k_asm)
  (case k5 => k_asm)
  (case k6 => k_is)
  (case k7 => k_is)
  (case k8 => ktr_room)
  (case k9 => k_dflt (exact BindsTo.of_eq rfl))
  (case c5 => decide)
  (case kB => exact locs rfl)
  (case c2 => exact rfl)
  (case c3 => exact rfl)
  (case c4 => exact rfl)
  intro g' L' h' FG' F' N' B' X' T'
  (try dsimp only)
  (try k_fold)

  have hl' : g'.IsList sl vs.toArray := hl.at (FG'.keep sl)
  have hlen : vs.length ≤ 63 := by have := hI.length; omega
  k_steps
  · rename_i hA lT dec cl0 hB lt1 hC pl hD lt2 hE lF9 N9
    unfold Stop
    (rename Fr _ _ _ _ => F₂); (rename News _ _ _ _ => N₂)
    obtain ⟨ws, ks, hws, hks, N₃⟩ : ∃ (ws : List Value) (ks : List Int), IntsAre ws ks ∧ ks.length ≤ 40 ∧ News g' L' _ [(pl, listOf #[] 0), (cl0, listOf (List.toArray ws) 0)] := ⟨_, [48, 224, 384, 304, 64, 288, 368], by (repeat constructor), by decide, cb_drop N₂ (sub_cons (.head _) (sub_cons (.tail _ (.head _)) fun _ h => absurd h List.not_mem_nil))⟩
    refine list_cut (vs := ws) (fun i m nx => ∃ (ys : List Str) (us : List Value) (n2 : Nat), nx = [(pl, listOf (List.toArray us) n2), (cl0, listOf (List.toArray ws) 0)] ∧ PyProof.Rows.StrsAre us ys ∧ ys.length = i ∧ (∀ y ∈ ys, sm y = true) ∧ Pins m [(Str.ofString "script", .ref sl), (Str.ofString "cells", .ref cl0), (Str.ofString "pieces", .ref pl)]) (by rfl) (by rfl) (.tail _ (.head _)) F₂ N₃ ⟨[], [], 0, rfl, .nil, rfl, fun _ h => absurd h List.not_mem_nil, ⟨rfl, rfl, rfl, trivial⟩⟩ ?_ ?_
    all_goals clear F₂ N₂ N₃
    · rintro i v m₁ nx h₁ tk₁ own hv hoff hmem ⟨ys, us, n2, rfl, hst, hyl, hy9, hp⟩ F₁ N₁
      replace F₁ := fr_pins F₁ (l := [(Str.ofString "script", .ref sl), (Str.ofString "cells", .ref cl0), (Str.ofString "pieces", .ref pl), (Str.ofString "cell", v)]) ⟨hp.1, hp.2.1, hp.2.2.1, rfl, trivial⟩
      obtain ⟨n, t, rfl⟩ := ints_at hws hv
      have hul : us.length ≤ 40 := by rw [strs_length hst, hyl]; have := (List.getElem?_eq_some_iff.mp hv).1; rw [hws.length] at this; omega
      (try k_fold)
      k_steps
      all_goals (try dsimp only)
      all_goals ((rename Fr _ _ _ _ => FF); (rename News _ _ _ _ => NN); rw [List.push_toArray] at NN; exact ⟨_, _, _, _, [(pl, _), (cl0, _)], rfl, FF, NN, sub_cons (.head _) (sub_cons (.tail _ (.head _)) fun _ h => absurd h List.not_mem_nil), fun _ h => .tail _ (.tail _ h), hoff, .tail _ (.head _), _, _, _, rfl, strs_snocs hst _ _, by rw [List.length_append, hyl]; rfl, all9 hy9 (by first | decide +kernel | exact getD9 _ (by decide +kernel) _), ⟨rfl, rfl, rfl, trivial⟩⟩)
    · rintro m₁ nx h₁ tk₁ ⟨ys, us, n2, rfl, hst, hyl, hy9, hp⟩ F₁ N₁
      replace F₁ := fr_pins F₁ hp
      have hl40 : ys.length ≤ 40 := by rw [hyl, hws.length]; exact hks
      have hsum := sum9 hy9
      (try dsimp only)
      (try k_fold)
      k_steps
      unfold Stop
      refine join_listW (News.isList N₁ (.head _)) hst (by decide +kernel) (by omega) fun t7 k7 => ?_
      have hjl : (Txt.join (Str.ofString "") ys).length ≤ 400 ∧ PyData.strOk (Txt.join (Str.ofString "") ys) = true := by
        have h1 := StrLaws.join_length_le (Str.ofString "") ys
        rw [show (Str.ofString "").length = 0 by decide +kernel, Nat.mul_zero, Nat.add_zero] at h1
        rw [show Txt.join (Str.ofString "") ys = PySem.Str.join (Str.ofString "") ys from StrLaws.glued_eq_join _ _]
        exact ⟨Nat.le_trans h1 (Nat.le_trans hsum (by omega)), join_ok hy9⟩
      k_steps
      exact hret _ _ _ _ hjl (by k_asm) (fun _ h => absurd h List.not_mem_nil)
  · rename_i hA lT dec cl0 ws' hB hI9 hC9 hL9 lt1 hC pl hD lt2 hE lF9 N9
    unfold Stop
    (rename Fr _ _ _ _ => F₂); (rename News _ _ _ _ => N₂)
    obtain ⟨ws, ks, hws, hks, N₃⟩ : ∃ (ws : List Value) (ks : List Int), IntsAre ws ks ∧ ks.length ≤ 40 ∧ News g' L' _ [(pl, listOf #[] 0), (cl0, listOf (List.toArray ws) 0)] := ⟨_, _, hI9, by rw [hC9]; omega, cb_drop N₂ (by walk_at "own k_subset")⟩
    refine list_cut (vs := ws) (fun i m nx => ∃ (ys : List Str) (us : List Value) (n2 : Nat), nx = [(pl, listOf (List.toArray us) n2), (cl0, listOf (List.toArray ws) 0)] ∧ PyProof.Rows.StrsAre us ys ∧ ys.length = i ∧ (∀ y ∈ ys, sm y = true) ∧ Pins m [(Str.ofString "script", .ref sl), (Str.ofString "cells", .ref cl0), (Str.ofString "pieces", .ref pl)]) (by rfl) (by rfl) (.tail _ (.head _)) F₂ N₃ ⟨[], [], 0, rfl, .nil, rfl, fun _ h => absurd h List.not_mem_nil, ⟨rfl, rfl, rfl, trivial⟩⟩ ?_ ?_
    all_goals clear F₂ N₂ N₃
    · rintro i v m₁ nx h₁ tk₁ own hv hoff hmem ⟨ys, us, n2, rfl, hst, hyl, hy9, hp⟩ F₁ N₁
      replace F₁ := fr_pins F₁ (l := [(Str.ofString "script", .ref sl), (Str.ofString "cells", .ref cl0), (Str.ofString "pieces", .ref pl), (Str.ofString "cell", v)]) ⟨hp.1, hp.2.1, hp.2.2.1, rfl, trivial⟩
      obtain ⟨n, t, rfl⟩ := ints_at hws hv
      have hul : us.length ≤ 40 := by rw [strs_length hst, hyl]; have := (List.getElem?_eq_some_iff.mp hv).1; rw [hws.length] at this; omega
      (try k_fold)
      k_steps
      all_goals (try dsimp only)
      all_goals ((rename Fr _ _ _ _ => FF); (rename News _ _ _ _ => NN); rw [List.push_toArray] at NN; exact ⟨_, _, _, _, [(pl, _), (cl0, _)], rfl, FF, NN, sub_cons (.head _) (sub_cons (.tail _ (.head _)) fun _ h => absurd h List.not_mem_nil), fun _ h => .tail _ (.tail _ h), hoff, .tail _ (.head _), _, _, _, rfl, strs_snocs hst _ _, by rw [List.length_append, hyl]; rfl, all9 hy9 (by first | decide +kernel | exact getD9 _ (by decide +kernel) _), ⟨rfl, rfl, rfl, trivial⟩⟩)
    · rintro m₁ nx h₁ tk₁ ⟨ys, us, n2, rfl, hst, hyl, hy9, hp⟩ F₁ N₁
      replace F₁ := fr_pins F₁ hp
      have hl40 : ys.length ≤ 40 := by rw [hyl, hws.length]; exact hks
      have hsum := sum9 hy9
      (try dsimp only)
      (try k_fold)
      k_steps
      unfold Stop
      refine join_listW (News.isList N₁ (.head _)) hst (by decide +kernel) (by omega) fun t7 k7 => ?_
      have hjl : (Txt.join (Str.ofString "") ys).length ≤ 400 ∧ PyData.strOk (Txt.join (Str.ofString "") ys) = true := by
        have h1 := StrLaws.join_length_le (Str.ofString "") ys
        rw [show (Str.ofString "").length = 0 by decide +kernel, Nat.mul_zero, Nat.add_zero] at h1
        rw [show Txt.join (Str.ofString "") ys = PySem.Str.join (Str.ofString "") ys from StrLaws.glued_eq_join _ _]
        exact ⟨Nat.le_trans h1 (Nat.le_trans hsum (by omega)), join_ok hy9⟩
      k_steps
      exact hret _ _ _ _ hjl (by k_asm) (fun _ h => absurd h List.not_mem_nil)
theorem text_use {w : World} {mean : ExcName → Option Value} {mg mb : Str → Option Value} {sl : Addr} {vs : List Value} {ns : List Int} (hI : IntsAre vs ns) (hn : ns.length ≤ 63)
    {dp un : Nat} {gd : Option (List Code)} {cn : Str} {cs : Scope} {a : Addr} {ccd : Value} {cl : List (Str × Addr)} {outer : List Env} {A₀ : Around} {base h₀ : Heap} {L : Addr} {m : Str → Option Value} {s : Shared} {Q E : Value → Shared → Prop}
    (B : Below A₀ base outer h₀) (F : Fr h₀ L s.heap m) (X : (hd.heap_39 w.params).In h₀) (N : News h₀ L s.heap []) (T : Top hd.view_39 (looseW hd.view_39 [Str.ofString "_law_good", Str.ofString "_law_odd"]) mean mg mb h₀) (hk : cs.kind = .function) (hd : dp + 40 < recursionLimit) (hu : un + 100 < cLine) (hl : h₀.IsList sl vs.toArray)
    (hret : ∀ x t h' tk', (x.length ≤ 400 ∧ PyData.strOk x = true) → Fr h₀ L h' m → News h₀ L h' [] → Q (.str x t) { s with heap := h', toks := tk' }) :
    wpAny (model PySem.Challenge.rw_nz0006_01.row.prog w) (ktrTop dp un gd cn cs L a ccd cl outer) (call (.ref 155) [.ref sl]) Q E s :=
  text_spec w mean mg mb sl vs ns hI hn _ _ _ _ _ _ _ _ _ _ _ _ _ _ _ _ _ B F X N T hk hd hu hl hret
end
end Mine
namespace Mine
section
theorem len_led {prog : Program} {w : World} {A : Around} {E : Value → Shared → Prop} {s : Shared} {h₀ : Heap} {L l : Addr} {news : Led} {vs : List Value} {k : Nat} {Q : Value → Shared → Prop} (N : News h₀ L s.heap news) (hm : (l, listOf vs.toArray k) ∈ news) (hb : vs.length ≤ 1010)
    (h : Q (.int (vs.length : Nat) (s.toks + 1)) { s with toks := s.toks + 1 + 1 }) : wpAny (model prog w) A (call (.builtin "len") [.ref l]) Q E s := by
  refine call_len_list (News.isList N hm) ?_ (by simpa using h)
  simp
  omega
end
end Mine
namespace Mine
section
/-- the law's own loop over the scanner, said plainly -/
structure LS where
  k : Nat
  toks : List Dat
  spot : Int
def lap (l : List Nat) (a : LS) : LS :=
  if a.spot < 0 then (match stok l a.k with
    | .tok ds k' => ⟨k', a.toks ++ [.tuple ds], a.spot⟩
    | .bad j => ⟨a.k, a.toks, j⟩)
  else a
def laps (l : List Nat) : Nat → LS
  | 0 => ⟨0, [], -1⟩
  | n + 1 => lap l (laps l n)
theorem laps0 (l : List Nat) : (laps l 0).spot < 0 := show (-1 : Int) < 0 by decide
theorem laps_len (l : List Nat) : ∀ n, (laps l n).toks.length ≤ n
  | 0 => Nat.le_refl _
  | n + 1 => by
    have ih := laps_len l n
    rw [laps, lap]
    split
    · cases stok l (laps l n).k with
      | tok ds k' => simp; omega
      | bad j => simp; omega
    · omega
theorem lap_tok {l : List Nat} {i k' : Nat} {ds : List Dat} (h : (laps l i).spot < 0) (e : stok l (laps l i).k = .tok ds k') : laps l (i + 1) = ⟨k', (laps l i).toks ++ [.tuple ds], (laps l i).spot⟩ := by
  rw [laps, lap, if_pos h, e]
theorem lap_bad {l : List Nat} {i j : Nat} (h : (laps l i).spot < 0) (e : stok l (laps l i).k = .bad j) : laps l (i + 1) = ⟨(laps l i).k, (laps l i).toks, j⟩ := by
  rw [laps, lap, if_pos h, e]
theorem lap_end {l : List Nat} {i : Nat} (h : ¬ (laps l i).spot < 0) : laps l (i + 1) = laps l i := by
  rw [laps, lap, if_neg h]
abbrev LPins (x : Str) (tx : Tok) (lF sc fl : Addr) (fa : Value) (sp : Int) (t : Tok) (m : Str → Option Value) : Prop :=
  Pins m [(Str.ofString "text", .str x tx), (Str.ofString "due", .ref lF), (Str.ofString "fault", fa), (Str.ofString "scanner", .ref sc), (Str.ofString "found", .ref fl), (Str.ofString "spot", .int sp t)]
def LJ (w : World) (x : Str) (tx : Tok) (due : List Dat) (sc dS fl lF : Addr) (vs : List Value) (k9 : Nat) (fa : Value) (i : Nat) (m : Str → Option Value) (nx : Led) : Prop :=
  ∃ (us : List Value) (un : Nat) (tl : Led) (t : Tok), DatAll tl us (laps x.cps.toList i).toks ∧ DatAll tl vs due ∧ (∀ p ∈ tl, p.1 ≠ dS) ∧ (∀ p ∈ tl, p.1 ≠ fl) ∧ LPins x tx lF sc fl fa (laps x.cps.toList i).spot t m ∧
    (((laps x.cps.toList i).spot < 0 ∧ (laps x.cps.toList i).k ≤ x.length ∧ ∃ kt ks t' ti, nx = (sc, instObj 142 dS) :: (dS, scD w.params kt ks x t' ((laps x.cps.toList i).k : Nat) ti) :: (fl, listOf us.toArray un) :: (lF, listOf vs.toArray k9) :: tl) ∨
     (0 ≤ (laps x.cps.toList i).spot ∧ nx = (fl, listOf us.toArray un) :: (lF, listOf vs.toArray k9) :: tl))
def LE (x : Str) (tx : Tok) (due : List Dat) (sc fl lF : Addr) (vs : List Value) (k9 : Nat) (fa : Value) (n : Nat) (m : Str → Option Value) (nx : Led) : Prop :=
  ∃ (us : List Value) (un : Nat) (tl : Led) (t : Tok), DatAll tl us (laps x.cps.toList n).toks ∧ DatAll tl vs due ∧ LPins x tx lF sc fl fa (laps x.cps.toList n).spot t m ∧ nx = (fl, listOf us.toArray un) :: (lF, listOf vs.toArray k9) :: tl
theorem LJ.out {w : World} {x : Str} {tx : Tok} {due : List Dat} {sc dS fl lF : Addr} {vs : List Value} {k9 : Nat} {fa : Value} {n : Nat} {m : Str → Option Value} {nx : Led} (h : LJ w x tx due sc dS fl lF vs k9 fa n m nx) : ∃ nx', LE x tx due sc fl lF vs k9 fa n m nx' ∧ ∀ p ∈ nx', p ∈ nx := by
  obtain ⟨us, un, tl, t, a, b, c, d, e, f⟩ := h
  rcases f with ⟨-, -, kt, ks, t', ti, rfl⟩ | ⟨-, rfl⟩
  · exact ⟨_, ⟨us, un, tl, t, a, b, e, rfl⟩, fun p hp => .tail _ (.tail _ hp)⟩
  · exact ⟨_, ⟨us, un, tl, t, a, b, e, rfl⟩, fun p hp => hp⟩
end
end Mine
namespace Mine
section
section
variable {w : World} {x : Str} {tx : Tok} {due ds : List Dat} {sc dS fl lF T9 : Addr} {vs us ws9 : List Value} {k9 i un n k' j : Nat} {fa : Value} {tl own nw : Led} {ts kt ks t' ti : Tok} {h₀ h : Heap} {L : Addr} {m : Str → Option Value} {s s₁ : Shared} {Q : Flow → Shared → Prop} {Ex : (Str → Option Value) → Led → Prop} {tk : Nat} {oS : Obj}
theorem law_tok (hs : (laps x.cps.toList i).spot < 0) (hU : DatAll tl us (laps x.cps.toList i).toks) (hD : DatAll tl vs due) (offS : ∀ p ∈ tl, p.1 ≠ dS) (offL : ∀ p ∈ tl, p.1 ≠ fl)
    (hoff : OwnOff own (((sc, instObj 142 dS) :: (dS, oS) :: (fl, listOf us.toArray n) :: (lF, listOf vs.toArray k9) :: tl).map (·.1))) (st : stok x.cps.toList (laps x.cps.toList i).k = .tok ds k') (kl : k' ≤ x.length) (D9 : DatAll [] ws9 ds)
    (lt9 : ∀ p ∈ (fl, listOf us.toArray n) :: (lF, listOf vs.toArray k9) :: (tl ++ own), @LT.lt Nat _ p.1 T9) (F : Fr h₀ L h m)
    (N : News h₀ L h ((T9, tupOf ws9.toArray 0) :: (sc, instObj 142 dS) :: (dS, scD w.params kt ks x t' (k' : Nat) ti) :: (fl, listOf (us.toArray.push (.ref T9)) un) :: (lF, listOf vs.toArray k9) :: (tl ++ own)))
    (hp : LPins x tx lF sc fl fa (laps x.cps.toList i).spot ts m) : EndF h₀ L (LJ w x tx due sc dS fl lF vs k9 fa (i + 1)) Ex own s s₁ Q .next { s₁ with heap := h, toks := tk } := by
  have e := lap_tok hs st
  have neS : @Ne Nat T9 dS := by
    intro e
    have h1 := (N _ (.head _)).1
    have h2 := (N _ (.tail _ (.tail _ (.head _)))).1
    dsimp only at h1 h2
    rw [show T9 = dS from e, h2] at h1
    have := congrArg (fun o => (o.map Obj.cls)) h1
    simp [scD, dictOf, tupOf] at this
  have neL : @Ne Nat T9 fl := Nat.ne_of_gt (lt9 _ (.head _))
  show EndI _ _ _ _ _ _
  refine ⟨h, tk, m, _, (sc, instObj 142 dS) :: (dS, scD w.params kt ks x t' (k' : Nat) ti) :: (fl, listOf (us ++ [Value.ref T9]).toArray un) :: (lF, listOf vs.toArray k9) :: (T9, tupOf ws9.toArray 0) :: tl, rfl, F, N, ?_, ?_, ?_, us ++ [Value.ref T9], un, (T9, tupOf ws9.toArray 0) :: tl, ts, ?_, ?_, ?_, ?_, ?_, .inl ⟨?_, ?_, kt, ks, t', ti, ?_⟩⟩
  · rw [← List.push_toArray]
    refine sub_cons (.tail _ (.head _)) (sub_cons (.tail _ (.tail _ (.head _))) (sub_cons (.tail _ (.tail _ (.tail _ (.head _)))) (sub_cons (.tail _ (.tail _ (.tail _ (.tail _ (.head _))))) (sub_cons (.head _) fun p hp => ?_))))
    exact .tail _ (.tail _ (.tail _ (.tail _ (.tail _ (List.mem_append_left _ hp)))))
  · exact fun p hp => .tail _ (.tail _ (.tail _ (.tail _ (.tail _ (List.mem_append_right _ hp)))))
  · intro p hq b hb e
    simp only [List.map_cons, List.mem_cons] at hb
    rcases hb with rfl | rfl | rfl | rfl | rfl | hb
    · exact hoff p hq _ (.head _) e
    · exact hoff p hq _ (.tail _ (.head _)) e
    · exact hoff p hq _ (.tail _ (.tail _ (.head _))) e
    · exact hoff p hq _ (.tail _ (.tail _ (.tail _ (.head _)))) e
    · exact Nat.ne_of_lt (lt9 p (.tail _ (.tail _ (List.mem_append_right _ hq)))) e
    · exact hoff p hq _ (.tail _ (.tail _ (.tail _ (.tail _ hb)))) e
  · rw [e]
    refine DatAll.append (DatAll.mono (fun p hp => List.mem_cons_of_mem _ hp) hU) (.one ?_)
    exact DatIn.tuple (vs := ws9) (n := 0) (.head _) (DatAll.mono (fun p hp => absurd hp List.not_mem_nil) D9)
  · exact DatAll.mono (fun p hp => List.mem_cons_of_mem _ hp) hD
  · exact off_cons neS offS
  · exact off_cons neL offL
  · rw [e]; exact hp
  · rw [e]; exact hs
  · rw [e]; exact kl
  · rw [e]
theorem law_bad (hs : (laps x.cps.toList i).spot < 0) (hU : DatAll tl us (laps x.cps.toList i).toks) (hD : DatAll tl vs due) (offS : ∀ p ∈ tl, p.1 ≠ dS) (offL : ∀ p ∈ tl, p.1 ≠ fl)
    (hoff : OwnOff own (((sc, instObj 142 dS) :: (dS, oS) :: (fl, listOf us.toArray n) :: (lF, listOf vs.toArray k9) :: tl).map (·.1))) (st : stok x.cps.toList (laps x.cps.toList i).k = .bad j)
    (F : Fr h₀ L h m) (N : News h₀ L h nw) (sub : ∀ p ∈ (fl, listOf us.toArray n) :: (lF, listOf vs.toArray k9) :: (tl ++ own), p ∈ nw)
    (hp : LPins x tx lF sc fl fa (j : Nat) ts m) : EndF h₀ L (LJ w x tx due sc dS fl lF vs k9 fa (i + 1)) Ex own s s₁ Q .next { s₁ with heap := h, toks := tk } := by
  have e := lap_bad hs st
  show EndI _ _ _ _ _ _
  refine ⟨h, tk, m, nw, (fl, listOf us.toArray n) :: (lF, listOf vs.toArray k9) :: tl, rfl, F, N, ?_, ?_, ?_, us, n, tl, ts, ?_, hD, offS, offL, ?_, .inr ⟨?_, rfl⟩⟩
  · exact fun p hp => sub p (show p ∈ ((fl, listOf us.toArray n) :: (lF, listOf vs.toArray k9) :: tl) ++ own from List.mem_append_left own hp)
  · exact fun p hp => sub p (.tail _ (.tail _ (List.mem_append_right _ hp)))
  · exact fun p hp b hb => hoff p hp b (.tail _ (.tail _ hb))
  · rw [e]; exact hU
  · rw [e]; exact hp
  · rw [e]; exact Int.natCast_nonneg j
theorem law_end (hs : 0 ≤ (laps x.cps.toList i).spot) (hU : DatAll tl us (laps x.cps.toList i).toks) (hD : DatAll tl vs due) (offS : ∀ p ∈ tl, p.1 ≠ dS) (offL : ∀ p ∈ tl, p.1 ≠ fl)
    (hoff : OwnOff own (((fl, listOf us.toArray n) :: (lF, listOf vs.toArray k9) :: tl).map (·.1)))
    (F : Fr h₀ L h m) (N : News h₀ L h nw) (sub : ∀ p ∈ (fl, listOf us.toArray n) :: (lF, listOf vs.toArray k9) :: (tl ++ own), p ∈ nw)
    (hp : LPins x tx lF sc fl fa (laps x.cps.toList i).spot ts m) : EndF h₀ L (LJ w x tx due sc dS fl lF vs k9 fa (i + 1)) Ex own s s₁ Q .next { s₁ with heap := h, toks := tk } := by
  have e := lap_end (l := x.cps.toList) (i := i) (by omega)
  show EndI _ _ _ _ _ _
  refine ⟨h, tk, m, nw, (fl, listOf us.toArray n) :: (lF, listOf vs.toArray k9) :: tl, rfl, F, N, ?_, ?_, ?_, us, n, tl, ts, ?_, hD, offS, offL, ?_, .inr ⟨?_, rfl⟩⟩
  · exact fun p hp => sub p (show p ∈ ((fl, listOf us.toArray n) :: (lF, listOf vs.toArray k9) :: tl) ++ own from List.mem_append_left own hp)
  · exact fun p hp => sub p (.tail _ (.tail _ (List.mem_append_right _ hp)))
  · exact hoff
  · rw [e]; exact hU
  · rw [e]; exact hp
  · rw [e]; exact hs
end
end
end Mine
namespace Mine
section
/-- a leaf of a token that is soon shown -/
def Leaf (d : Dat) : Prop := (∃ y, d = .str y ∧ y.length ≤ 400 ∧ PyData.strOk y = true) ∨ (∃ i : Int, d = .int i ∧ i.natAbs < 10 ^ 401)
def TokOk (d : Dat) : Prop := ∃ a b c, d = .tuple [a, b, c] ∧ Leaf a ∧ Leaf b ∧ Leaf c
def ends (n : Nat) : List Dat := [.tuple [.str (Str.ofString "end"), .str (Str.ofString ""), .int n], .tuple [.str (Str.ofString "end"), .str (Str.ofString ""), .int n], .tuple [.str (Str.ofString "end"), .str (Str.ofString ""), .int n]]
theorem Leaf.kqd {d : Dat} (h : Leaf d) : kqdOk 1 d = true := by
  rcases h with ⟨y, rfl, -, h⟩ | ⟨i, rfl, -⟩
  · exact h
  · rfl
theorem TokOk.kqd {d : Dat} (h : TokOk d) : kqdOk 2 d = true := by
  obtain ⟨a, b, c, rfl, ha, hb, hc⟩ := h
  simp only [kqdOk, List.all_cons, List.all_nil, ha.kqd, hb.kqd, hc.kqd, Bool.and_self]
theorem Leaf.shown {d : Dat} (h : Leaf d) : (kqdP d).shown.length ≤ 4002 ∧ (kqdP d).showable = true ∧ (kqdP d).hasDict = false ∧ (kqdP d).depth = 0 := by
  rcases h with ⟨y, rfl, hl, h⟩ | ⟨i, rfl, hi⟩
  · refine ⟨?_, rfl, rfl, rfl⟩
    have := StrLaws.reprText_len y (fun c hc => by
      have := (Array.all_eq_true_iff_forall_mem.mp h) c (Array.mem_toList_iff.mp hc)
      have e : (16 : Nat) ^ 8 = 4294967296 := by decide
      simp only [decide_eq_true_eq] at this
      omega)
    simp only [kqdP, PyData.shown]
    omega
  · refine ⟨?_, ?_, rfl, rfl⟩
    · have e := int_text_length_le10 (k := 401) (by decide) hi
      have : (kqdP (.int i)).shown.length = (toString i).length := PySem.ofString_length _
      omega
    · show decide (i.natAbs.log2 < 1920) = true
      have : (10 : Nat) ^ 401 ≤ 2 ^ 1920 := by decide +kernel
      rw [decide_eq_true_eq]
      by_cases h0 : i.natAbs = 0
      · rw [h0]; decide
      · exact (Nat.log2_lt h0).mpr (Nat.lt_of_lt_of_le hi this)
theorem TokOk.shown {d : Dat} (h : TokOk d) : (kqdP d).shown.length ≤ 12020 ∧ (kqdP d).showable = true ∧ (kqdP d).hasDict = false ∧ (kqdP d).depth = 1 := by
  obtain ⟨a, b, c, rfl, ha, hb, hc⟩ := h
  obtain ⟨a1, a2, a3, a4⟩ := ha.shown
  obtain ⟨b1, b2, b3, b4⟩ := hb.shown
  obtain ⟨c1, c2, c3, c4⟩ := hc.shown
  refine ⟨?_, ?_, ?_, ?_⟩
  · have := tupleText_len_le (PyData.shownAll [kqdP a, kqdP b, kqdP c])
    simp only [PyData.shownAll, List.map_cons, List.map_nil, List.sum_cons, List.sum_nil, List.length_cons, List.length_nil] at this
    simp only [kqdP, kqdPs, PyData.shown, PyData.shownAll]
    omega
  · simp only [kqdP, kqdPs, PyData.showable, PyData.showableAll, a2, b2, c2, Bool.and_self]
  · simp only [kqdP, kqdPs, PyData.hasDict, PyData.hasDictAll, a3, b3, c3, Bool.or_self]
  · simp only [kqdP, kqdPs, PyData.depth, PyData.depthAll, a4, b4, c4]
    rfl
theorem toks_shown : ∀ {ds : List Dat}, (∀ d ∈ ds, TokOk d) → ((PyData.shownAll (kqdPs ds)).map (·.length)).sum ≤ 12020 * ds.length ∧ PyData.showableAll (kqdPs ds) = true ∧ PyData.hasDictAll (kqdPs ds) = false ∧ PyData.depthAll (kqdPs ds) ≤ 1 ∧ (PyData.shownAll (kqdPs ds)).length = ds.length
  | [], _ => ⟨Nat.le_refl _, rfl, rfl, Nat.zero_le _, rfl⟩
  | d :: ds, h => by
    obtain ⟨a1, a2, a3, a4⟩ := (h d (.head _)).shown
    obtain ⟨b1, b2, b3, b4, b5⟩ := toks_shown (ds := ds) fun e he => h e (.tail _ he)
    refine ⟨?_, ?_, ?_, ?_, ?_⟩
    · simp only [kqdPs, PyData.shownAll, List.map_cons, List.sum_cons, List.length_cons]; omega
    · simp only [kqdPs, PyData.showableAll, a2, b2, Bool.and_self]
    · simp only [kqdPs, PyData.hasDictAll, a3, b3, Bool.or_self]
    · simp only [kqdPs, PyData.depthAll]; omega
    · simp only [kqdPs, PyData.shownAll, List.length_cons, b5]
theorem repr_dat {prog : Program} {w : World} {A : Around} {E : Value → Shared → Prop} {s : Shared} {h₀ : Heap} {L l : Addr} {m : Str → Option Value} {news : Led} {vs : List Value} {ds : List Dat} {k : Nat} {Q : Value → Shared → Prop}
    (F : Fr h₀ L s.heap m) (N : News h₀ L s.heap news) (hm : (l, listOf vs.toArray k) ∈ news) (hA : DatAll news vs ds) (hok : ∀ d ∈ ds, TokOk d) (hn : ds.length ≤ 1010) (hg : A.guards = some []) (hu : A.units + 10 < cLine)
    (h : ∀ h' u tk, Fr h₀ L h' m → News h₀ L h' news → Q (.str (PyData.list (kqdPs ds)).shown u) { s with heap := h', toks := tk }) : wpAny (model prog w) A (call (.builtin "repr") [.ref l]) Q E s := by
  obtain ⟨as, r⟩ := kqd_all N 2 hA fun d hd => (hok d hd).kqd
  obtain ⟨b1, b2, b3, b4, b5⟩ := toks_shown hok
  have R : Reads s.heap (.ref l) (.list (kqdPs ds)) _ := reads_list_at (N.get hm) rfl rfl (by simpa [PySem.W.listOf] using r)
  refine repr_of_reads' R ?_ (PyData.noDict_hsm ?_) hg ?_ (fun _ _ e => e) (fun h' u tk hk => h h' u tk (F.keptAll hk) (N.grown hk)) ?_
  · simpa only [PyData.showable] using b2
  · simpa only [PyData.hasDict] using b3
  · simp only [PyData.depth]; omega
  · have := listText_len_le (PyData.shownAll (kqdPs ds))
    simp only [PyData.shown]
    rw [sizeLine_eq]
    omega
theorem ends_dat {news : Led} {D : Addr} {n : Nat} {t1 t2 t3 : Tok} (hm : (D, ({ cls := .type "tuple", data := .seq #[.str (Str.ofString "end") t1, .str (Str.ofString "") t2, .int (n : Int) t3] 0 } : Obj)) ∈ news) : DatAll news [.ref D, .ref D, .ref D] (ends n) := by
  have h : DatIn news (.ref D) (.tuple [.str (Str.ofString "end"), .str (Str.ofString ""), .int n]) := DatIn.tuple (vs := [.str (Str.ofString "end") t1, .str (Str.ofString "") t2, .int (n : Int) t3]) (n := 0) hm (.cons (.str _ _) (.cons (.str _ _) (.cons (.int _ _) .nil)))
  exact .cons h (.cons h (.cons h .nil))
end
end Mine
namespace Mine
section
/-! the plain law: the machine of signs and the scanner find the same -/
section
variable {l : List Nat} {i j k c : Nat} {h mo : Str} {fo : List Dat} {b : Int}
def Clean (l : List Nat) (i : Nat) (fo : List Dat) : Prop := ∃ h b, (run l i).fault < 0 ∧ leave (run l i) (srt l[i]?) = ⟨Str.ofString "", h, fo, b, -1⟩
theorem neg1 : ¬ (0 : Int) ≤ -1 := by decide
theorem run_next {m : MS} (e : run l i = m) (hf : ¬ 0 ≤ m.fault) : run l (i + 1) = step m l[i]? i := by
  have := run_succ (l := l) (i := i) (by rw [e]; exact hf)
  rw [this, e]
theorem leave_clean {so : Str} : leave ⟨Str.ofString "", h, fo, b, -1⟩ so = ⟨Str.ofString "", h, fo, b, -1⟩ := leave_other (by decide +kernel) (by decide +kernel) (by decide +kernel)
theorem clean_of (e : run l i = ⟨Str.ofString "", h, fo, b, -1⟩) : Clean l i fo := ⟨h, b, by rw [e]; exact (by decide : (-1 : Int) < 0), by rw [e]; exact leave_clean⟩
theorem clean_step (C : Clean l i fo) : ∃ h b, run l (i + 1) = outside ⟨Str.ofString "", h, fo, b, -1⟩ l[i]? (srt l[i]?) i := by
  obtain ⟨h, b, hf, e⟩ := C
  refine ⟨h, b, ?_⟩
  rw [run_succ (by omega), step, e, if_neg neg1, after, if_neg (show ¬ isWN (Str.ofString "") = true by decide +kernel), if_neg (show ¬ isIn (Str.ofString "") = true by decide +kernel)]
theorem mode_ne {mo x : Str} {p : Str → Bool} (hp : p mo = true) (hx : p x = false) : (mo == x) = false := by
  rw [beq_eq_false_iff_ne]; rintro rfl; rw [hp] at hx; cases hx
theorem step_in (h2 : isIn mo = true) {o : Option Nat} : step ⟨mo, h, fo, b, -1⟩ o i = inside ⟨mo, h, fo, b, -1⟩ o i := by
  have e : leave ⟨mo, h, fo, b, -1⟩ (srt o) = ⟨mo, h, fo, b, -1⟩ := leave_other (mode_ne h2 (by decide +kernel)) (mode_ne h2 (by decide +kernel)) (mode_ne h2 (by decide +kernel))
  have hw : ¬ isWN mo = true := by
    intro q
    simp only [isWN, List.any_cons, List.any_nil, Bool.or_false, Bool.or_eq_true, beq_iff_eq] at q
    rcases q with q | q
    · rw [← q] at h2; exact absurd h2 (by decide +kernel)
    · rw [← q] at h2; exact absurd h2 (by decide +kernel)
  rw [step, e, if_neg neg1, after, if_neg hw, if_pos h2]
/-- where the machine ends without a fault -/
def End (l : List Nat) (fo : List Dat) : Prop := (run l (l.length + 1)).fault = -1 ∧ (run l (l.length + 1)).found = fo
def Bad (l : List Nat) (fo : List Dat) (s : Nat) : Prop := (run l (l.length + 1)).fault = s ∧ (run l (l.length + 1)).found = fo
theorem bad_at {s : Nat} (hi : i ≤ l.length + 1) (e : (run l i).fault = s) (f : (run l i).found = fo) : Bad l fo s := by
  have := run_stop (l := l) (i := i) (by rw [e]; exact Int.natCast_nonneg s) (l.length + 1 - i)
  rw [show i + (l.length + 1 - i) = l.length + 1 by omega] at this
  exact ⟨by rw [this, e], by rw [this, f]⟩
theorem none_len (hi : i ≤ l.length) (e : l[i]? = none) : i = l.length := by
  have := List.getElem?_eq_none_iff.mp e; omega
theorem lt_some (e : l[i]? = some c) : i < l.length := (List.getElem?_eq_some_iff.mp e).1
theorem clean_end (C : Clean l i fo) (hi : i ≤ l.length) (e : l[i]? = none) : End l fo := by
  obtain ⟨h, b, r⟩ := clean_step C
  rw [e] at r
  obtain rfl := none_len hi e
  unfold End
  rw [r, show srt none = Str.ofString "end" from rfl, out_end]
  exact ⟨rfl, rfl⟩
theorem srp_blk (hb : isBlk c = true) : srt (some c) = Str.ofString "blank" := by
  have : c = 32 ∨ c = 9 ∨ c = 13 ∨ c = 10 := by simpa [isBlk] using hb
  rcases this with rfl | rfl | rfl | rfl <;> decide +kernel
theorem clean_blk (C : Clean l i fo) (e : l[i]? = some c) (hb : isBlk c = true) : Clean l (i + 1) fo := by
  obtain ⟨h, b, r⟩ := clean_step C
  rw [e, srp_blk hb, out_blank] at r
  exact clean_of r
theorem upto_stop {p : Nat → Bool} (e : l[upto p l i]? = some c) : p c = false := by
  have key : ∀ n i, l.length - i = n → ∀ c, l[upto p l i]? = some c → p c = false := by
    intro n
    induction n with
    | zero =>
      intro i hn c e
      rw [upto_nil (by omega)] at e
      have := lt_some e; omega
    | succ n ih =>
      intro i hn c e
      have hi : i < l.length := by omega
      cases q : p l[i] with
      | true =>
        rw [← upto_step (List.getElem?_eq_getElem hi) q] at e
        exact ih (i + 1) (by omega) c e
      | false =>
        rw [upto_no (List.getElem?_eq_getElem hi) q, List.getElem?_eq_getElem hi] at e
        cases e; exact q
  exact key _ i rfl c e
theorem clean_blks (C : Clean l i fo) : Clean l (upto isBlk l i) fo := by
  have key : ∀ n i, l.length - i = n → Clean l i fo → Clean l (upto isBlk l i) fo := by
    intro n
    induction n with
    | zero => intro i hn C; rw [upto_nil (by omega)]; exact C
    | succ n ih =>
      intro i hn C
      have hi : i < l.length := by omega
      cases q : isBlk l[i] with
      | true =>
        rw [← upto_step (List.getElem?_eq_getElem hi) q]
        exact ih (i + 1) (by omega) (clean_blk C (List.getElem?_eq_getElem hi) q)
      | false => rw [upto_no (List.getElem?_eq_getElem hi) q]; exact C
  exact key _ i rfl C
theorem rem_run : ∀ n k, l.length - k = n → run l k = ⟨Str.ofString "remark", h, fo, b, -1⟩ → run l (upto noNl l k) = ⟨Str.ofString "remark", h, fo, b, -1⟩ := by
  intro n
  induction n with
  | zero => intro k hn e; rw [upto_nil (by omega)]; exact e
  | succ n ih =>
    intro k hn e
    have hk : k < l.length := by omega
    cases q : noNl l[k] with
    | true =>
      rw [← upto_step (List.getElem?_eq_getElem hk) q]
      refine ih (k + 1) (by omega) ?_
      rw [run_next e neg1, step_in (by decide +kernel), List.getElem?_eq_getElem hk]
      refine in_rem_no ?_
      rw [show Str.ofString "\n" = ⟨#[10]⟩ from rfl, sgn_eq, decide_eq_false_iff_not]
      intro e
      rw [Option.some.inj e] at q
      exact absurd q (by decide)
    | false => rw [upto_no (List.getElem?_eq_getElem hk) q]; exact e
theorem clean_rem (C : Clean l i fo) (e : l[i]? = some 37) : (l[upto noNl l i]? = none ∧ End l fo) ∨ Clean l (upto isBlk l (upto noNl l i)) fo := by
  obtain ⟨h, b, r⟩ := clean_step C
  rw [e, show srt (some 37) = Str.ofString "%" by decide +kernel, out_pct] at r
  have r2 := rem_run _ _ rfl r
  rw [upto_step e (by decide)] at r2
  have hle : upto noNl l i ≤ l.length := upto_le (Nat.le_of_lt (lt_some e))
  cases q : l[upto noNl l i]? with
  | none =>
    refine .inl ⟨rfl, ?_⟩
    have r3 := run_next r2 neg1
    rw [step_in (by decide +kernel), q, in_rem_no (by decide +kernel), none_len hle q] at r3
    unfold End
    rw [r3]; exact ⟨rfl, rfl⟩
  | some c =>
    refine .inr ?_
    have hc : c = 10 := by have := upto_stop q; simpa [noNl] using this
    subst hc
    have r3 := run_next r2 neg1
    rw [step_in (by decide +kernel), q, in_rem_nl (by decide +kernel)] at r3
    rw [← upto_step q (by decide)]
    exact clean_blks (clean_of r3)
def Skipped (l : List Nat) (fo : List Dat) (j : Nat) : Prop := (l[j]? = none ∧ End l fo) ∨ ∃ c, l[j]? = some c ∧ isBlk c = false ∧ c ≠ 37 ∧ Clean l j fo
theorem clean_skipFrom : ∀ j, j ≤ l.length → (∀ c, l[j]? = some c → isBlk c = false) → Clean l j fo → Skipped l fo (skipFrom l j) := by
  intro j
  induction j using skipFrom.induct (l := l) with
  | case1 j hj ih =>
    intro hl hb C
    rw [← skip_yes hj]
    have hle : upto noNl l j ≤ l.length := upto_le hl
    rcases clean_rem C hj with ⟨q, E⟩ | C'
    · rw [none_len hle q, upto_nil (Nat.le_refl _), skip_no (by rw [List.getElem?_eq_none (Nat.le_refl _)]; simp)]
      exact .inl ⟨List.getElem?_eq_none (Nat.le_refl _), E⟩
    · exact ih (upto_le hle) (fun c e => upto_stop e) C'
  | case2 j hj =>
    intro hl hb C
    rw [skip_no hj]
    cases q : l[j]? with
    | none => exact .inl ⟨q, clean_end C hl q⟩
    | some c => exact .inr ⟨c, q, hb c q, fun e => hj (by rw [q, e]), C⟩
theorem clean_skip (C : Clean l i fo) (hi : i ≤ l.length) : Skipped l fo (skipTo l i) :=
  clean_skipFrom _ (upto_le hi) (fun _ e => upto_stop e) (clean_blks C)
end
end
end Mine
namespace Mine
section
section
variable {l : List Nat} {i j k c : Nat} {h mo : Str} {fo : List Dat} {b : Int}
theorem strOf_snoc (acc : List Nat) (c : Nat) : strOf acc ++ sgn (some c) = strOf (acc ++ [c]) := by
  apply PySem.Str.ext'
  rw [PySem.Str.cps_append]
  simp [strOf, sgn]
theorem strOf_cps (acc : List Nat) : (strOf acc).cps.toList = acc := by simp [strOf]
theorem held_run {M : Str} {p : Nat → Bool} (hs : ∀ acc c i, p c = true → step ⟨M, strOf acc, fo, b, -1⟩ (some c) i = ⟨M, strOf (acc ++ [c]), fo, b, -1⟩) : ∀ n k acc, l.length - k = n → run l k = ⟨M, strOf acc, fo, b, -1⟩ → run l (upto p l k) = ⟨M, strOf (acc ++ (l.drop k).takeWhile p), fo, b, -1⟩ := by
  intro n
  induction n with
  | zero =>
    intro k acc hn e
    rw [upto_nil (by omega), List.drop_eq_nil_of_le (by omega), List.takeWhile_nil, List.append_nil]; exact e
  | succ n ih =>
    intro k acc hn e
    have hk : k < l.length := by omega
    cases q : p l[k] with
    | true =>
      rw [← upto_step (List.getElem?_eq_getElem hk) q, List.drop_eq_getElem_cons hk, List.takeWhile_cons, if_pos q]
      have := ih (k + 1) (acc ++ [l[k]]) (by omega) (by rw [run_next e neg1, List.getElem?_eq_getElem hk]; exact hs acc _ k q)
      rw [this, List.append_assoc]; rfl
    | false =>
      rw [upto_no (List.getElem?_eq_getElem hk) q, List.drop_eq_getElem_cons hk, List.takeWhile_cons, if_neg (by rw [q]; exact Bool.false_ne_true), List.append_nil]; exact e
theorem dig_let (h : isDig c = true) : isLet c = false := by
  simp only [isDig, Bool.and_eq_true, decide_eq_true_eq] at h
  unfold isLet
  simp only [← Bool.decide_and, ← Bool.decide_or, decide_eq_false_iff_not]
  omega
theorem srp_dig (h : isDig c = true) : srt (some c) = Str.ofString "digit" := by
  show (if isDig c = true then _ else _) = _
  rw [if_pos h]
theorem no_t {b : Bool} (h : b = false) : ¬ b = true := by rw [h]; exact Bool.false_ne_true
theorem srp_let (h : isLet c = true) : srt (some c) = Str.ofString "letter" := by
  have hd : isDig c = false := by
    cases q : isDig c with
    | false => rfl
    | true => rw [dig_let q] at h; cases h
  show (if isDig c = true then _ else if isLet c = true then _ else _) = _
  rw [if_neg (no_t hd), if_pos h]
theorem srp_mrk (hd : isDig c = false) (hl : isLet c = false) (hb : isBlk c = false) (h : isMrk c = true) : srt (some c) = Str.ofString "mark" := by
  show (if isDig c = true then _ else if isLet c = true then _ else if isBlk c = true then _ else if isMrk c = true then _ else _) = _
  rw [if_neg (no_t hd), if_neg (no_t hl), if_neg (no_t hb), if_pos h]
theorem srt_one (hd : isDig c = false) (hl : isLet c = false) (hb : isBlk c = false) (h : isMrk c = false) : srt (some c) = ⟨#[c]⟩ := by
  show (if isDig c = true then _ else if isLet c = true then _ else if isBlk c = true then _ else if isMrk c = true then _ else _) = _
  rw [if_neg (no_t hd), if_neg (no_t hl), if_neg (no_t hb), if_neg (no_t h)]
theorem one_other {x : Str} (h : x.length ≠ 1) : ((⟨#[c]⟩ : Str) == x) = false := by
  rw [beq_eq_false_iff_ne]; rintro rfl; exact h rfl
/-- a sign that is no digit -/
theorem srp_nd {o : Option Nat} (h : ∀ c, o = some c → isDig c = false) : (srt o != Str.ofString "digit") = true := by
  cases q : srt o == Str.ofString "digit" with
  | false => rw [bne, q]; rfl
  | true =>
    obtain ⟨c, e, hc⟩ := srt_dig_inv (eq_of_beq q)
    rw [h c e] at hc; cases hc
theorem srt_let_inv {o : Option Nat} (h : srt o = Str.ofString "letter") : ∃ c, o = some c ∧ isLet c = true := by
  cases o with
  | none => exact absurd h (by decide +kernel)
  | some c =>
    refine ⟨c, rfl, ?_⟩
    cases hl : isLet c with
    | true => rfl
    | false =>
      exfalso
      unfold srt at h
      dsimp only at h
      rw [hl] at h
      simp only [Bool.false_eq_true, if_false] at h
      split at h
      · exact absurd h (by decide +kernel)
      · split at h
        · exact absurd h (by decide +kernel)
        · split at h
          · exact absurd h (by decide +kernel)
          · have := congrArg (fun s : Str => s.cps.size) h
            exact absurd this (show ¬ (1 = (Str.ofString "letter").cps.size) by decide +kernel)
theorem srt_nw {o : Option Nat} (h : ∀ c, o = some c → isWrd c = false) : ([Str.ofString "letter", Str.ofString "digit"].any fun x => x == srt o) = false := by
  simp only [List.any_cons, List.any_nil, Bool.or_false, Bool.or_eq_false_iff, beq_eq_false_iff_ne]
  constructor
  · intro e
    obtain ⟨c, q, hc⟩ := srt_let_inv e.symm
    have := h c q
    rw [isWrd, hc] at this; cases this
  · intro e
    obtain ⟨c, q, hc⟩ := srt_dig_inv e.symm
    have := h c q
    rw [isWrd, hc, Bool.or_true] at this; cases this
theorem wn_num : isWN (Str.ofString "number") = true := by decide +kernel
theorem wn_wrd : isWN (Str.ofString "word") = true := by decide +kernel
theorem step_num (acc : List Nat) (c i : Nat) (h : isDig c = true) : step ⟨Str.ofString "number", strOf acc, fo, b, -1⟩ (some c) i = ⟨Str.ofString "number", strOf (acc ++ [c]), fo, b, -1⟩ := by
  unfold step
  rw [srp_dig h, leave_num_in (by decide +kernel), if_neg neg1]
  unfold after
  rw [if_pos wn_num, ← strOf_snoc]
theorem step_min (acc : List Nat) (c i : Nat) (h : isDig c = true) : step ⟨Str.ofString "minus", strOf acc, fo, b, -1⟩ (some c) i = ⟨Str.ofString "number", strOf (acc ++ [c]), fo, b, -1⟩ := by
  unfold step
  rw [srp_dig h, leave_min_in (by decide +kernel), if_neg neg1]
  unfold after
  rw [if_pos wn_num, ← strOf_snoc]
theorem step_wrd (acc : List Nat) (c i : Nat) (h : isWrd c = true) : step ⟨Str.ofString "word", strOf acc, fo, b, -1⟩ (some c) i = ⟨Str.ofString "word", strOf (acc ++ [c]), fo, b, -1⟩ := by
  unfold step
  have e : ([Str.ofString "letter", Str.ofString "digit"].any fun x => x == srt (some c)) = true := by
    rw [isWrd, Bool.or_eq_true] at h
    rcases h with h | h
    · rw [srp_let h]; decide +kernel
    · rw [srp_dig h]; decide +kernel
  rw [leave_word_in e, if_neg neg1]
  unfold after
  rw [if_pos wn_wrd, ← strOf_snoc]
theorem worthOf_dig : ∀ (ds : List Nat) (a : Nat), (∀ c ∈ ds, 48 ≤ c ∧ c ≤ 57) → ds.foldl (fun (t : Int) (c : Nat) => if c = 45 then t else 10 * t + ((c : Int) - 48)) (a : Int) = ((ds.foldl (fun acc c => acc * 10 + (c - 48)) a : Nat) : Int)
  | [], _, _ => rfl
  | c :: ds, a, h => by
    have hc := h c (.head _)
    have n45 : ¬ c = 45 := by omega
    rw [List.foldl_cons, List.foldl_cons, if_neg n45, ← worthOf_dig ds (a * 10 + (c - 48)) fun d hd => h d (.tail _ hd)]
    congr 1
    omega
theorem worth_dig {ds : List Nat} (h : NumText.AllDigits ds) : worth ds = ((NumText.digitsVal ds : Nat) : Int) := by
  have e : worthOf ds = ((NumText.digitsVal ds : Nat) : Int) := worthOf_dig ds 0 h
  unfold worth
  rw [if_neg, e]
  intro q
  cases ds with
  | nil => cases q
  | cons c ds =>
    have := h c (.head _)
    rw [List.head?_cons, Option.some.injEq] at q
    omega
theorem worth_min {ds : List Nat} (h : NumText.AllDigits ds) : worth (45 :: ds) = -((NumText.digitsVal ds : Nat) : Int) := by
  have e : worthOf (45 :: ds) = ((NumText.digitsVal ds : Nat) : Int) := worthOf_dig ds 0 h
  unfold worth
  rw [if_pos (show (45 :: ds).head? = some 45 from rfl), e]
  omega
/-- what the machine does with a piece, as the scanner says -/
def Piece (l : List Nat) (fo : List Dat) (j : Nat) : TR → Prop
  | .tok ds k => Clean l k (fo ++ [.tuple ds]) ∧ j < k ∧ k ≤ l.length
  | .bad s => Bad l fo s
theorem upto_gt {p : Nat → Bool} (e : l[j]? = some c) (hp : p c = true) : j < upto p l j := by
  rw [← upto_step e hp]; have := upto_ge (p := p) (l := l) (i := j + 1); omega
theorem take_head {p : Nat → Bool} (e : l[j]? = some c) (hp : p c = true) : (l.drop j).takeWhile p = c :: (l.drop (j + 1)).takeWhile p := by
  obtain ⟨hj, e'⟩ := List.getElem?_eq_some_iff.mp e
  rw [List.drop_eq_getElem_cons hj, e', List.takeWhile_cons, if_pos hp]
theorem take_none {p : Nat → Bool} (e : ∀ c, l[j]? = some c → p c = false) : (l.drop j).takeWhile p = [] := by
  by_cases hj : j < l.length
  · rw [List.drop_eq_getElem_cons hj, List.takeWhile_cons, if_neg (no_t (e _ (List.getElem?_eq_getElem hj)))]
  · rw [List.drop_eq_nil_of_le (by omega)]; rfl
theorem sgn_str (c : Nat) : sgn (some c) = strOf [c] := rfl
theorem clean_at {fo1 : List Dat} (e : run l k = ⟨mo, h, fo1, b, -1⟩) (q : leave ⟨mo, h, fo1, b, -1⟩ (srt l[k]?) = ⟨Str.ofString "", h, fo, b, -1⟩) : Clean l k fo := ⟨h, b, by rw [e]; exact (by decide : (-1 : Int) < 0), by rw [e]; exact q⟩
theorem neg_lt : (-1 : Int) < 0 := by decide
theorem dig45 : isDig 45 = false := by decide
theorem piece_num (C : Clean l j fo) (e : l[j]? = some c) (hd : isDig c = true) : Piece l fo j (.tok [.str (Str.ofString "number"), .int (numV l j), .int j] (upto isDig l (numS l j))) := by
  obtain ⟨h, b, r⟩ := clean_step C
  rw [e, srp_dig hd, out_digit, sgn_str] at r
  have r2 := held_run (l := l) (fo := fo) (b := j) step_num _ (j + 1) [c] rfl r
  rw [upto_step e hd, List.singleton_append, ← take_head e hd] at r2
  have n45 : ¬ l[j]? = some 45 := by rw [e]; intro q; rw [Option.some.inj q] at hd; cases hd
  have hS : numS l j = j := by rw [numS, if_neg n45]
  have hD : numD l j = (l.drop j).takeWhile isDig := by rw [numD, hS]
  have hV : numV l j = ((NumText.digitsVal ((l.drop j).takeWhile isDig) : Nat) : Int) := by rw [numV, if_neg n45, hD]
  rw [hS, hV, ← worth_dig (takeDig_all _)]
  refine ⟨clean_at r2 ?_, upto_gt e hd, upto_le (Nat.le_of_lt (lt_some e))⟩
  rw [leave_num_out (srp_nd fun d q => upto_stop q), strOf_cps]
  rfl
theorem piece_min (C : Clean l j fo) (e : l[j]? = some 45) : Piece l fo j (if numD l j = [] then .bad j else .tok [.str (Str.ofString "number"), .int (numV l j), .int j] (upto isDig l (numS l j))) := by
  obtain ⟨h, b, r⟩ := clean_step C
  rw [e, show srt (some 45) = Str.ofString "-" by decide +kernel, out_minus, show Str.ofString "-" = strOf [45] by decide +kernel] at r
  have r1 : run l (j + 1) = ⟨Str.ofString "minus", strOf [45], fo, j, -1⟩ := r
  have hS : numS l j = j + 1 := by rw [numS, if_pos e]
  have hD : numD l j = (l.drop (j + 1)).takeWhile isDig := by rw [numD, hS]
  have hV : numV l j = -((NumText.digitsVal ((l.drop (j + 1)).takeWhile isDig) : Nat) : Int) := by rw [numV, if_pos e, hD]
  rw [hS, hV, hD]
  have hj := lt_some e
  have out : (∀ c, l[j + 1]? = some c → isDig c = false) → Piece l fo j (.bad j) := by
    intro q
    have r2 := run_next r1 neg1
    unfold step at r2
    rw [leave_min_out (srp_nd q), if_pos (by exact Int.natCast_nonneg j)] at r2
    exact bad_at (i := j + 1 + 1) (by omega) (by rw [r2]) (by rw [r2])
  cases q : l[j + 1]? with
  | none =>
    have z : ∀ c, l[j + 1]? = some c → isDig c = false := fun c w => by rw [q] at w; cases w
    rw [if_pos (take_none z)]
    exact out z
  | some d =>
    cases hd : isDig d with
    | false =>
      have z : ∀ c, l[j + 1]? = some c → isDig c = false := fun c w => by rw [q] at w; cases w; exact hd
      rw [if_pos (take_none z)]
      exact out z
    | true =>
      rw [if_neg (by rw [take_head q hd]; exact List.cons_ne_nil _ _)]
      have r2 := run_next r1 neg1
      rw [q, step_min _ _ _ hd] at r2
      have r3 := held_run (l := l) (fo := fo) (b := j) step_num _ (j + 1 + 1) [45, d] rfl r2
      rw [upto_step q hd, show [45, d] = [45] ++ [d] from rfl, List.append_assoc, List.singleton_append, List.singleton_append, ← take_head q hd] at r3
      rw [← worth_min (takeDig_all _)]
      refine ⟨clean_at r3 ?_, by have := upto_gt q hd; omega, upto_le hj⟩
      rw [leave_num_out (srp_nd fun d q => upto_stop q), strOf_cps]
      rfl
theorem piece_wrd (C : Clean l j fo) (e : l[j]? = some c) (hd : isLet c = true) : Piece l fo j (.tok [.str (Str.ofString "word"), .str (strOf ((l.drop j).takeWhile isWrd)), .int j] (upto isWrd l j)) := by
  obtain ⟨h, b, r⟩ := clean_step C
  rw [e, srp_let hd, out_letter, sgn_str] at r
  have hw : isWrd c = true := by rw [isWrd, hd]; rfl
  have r2 := held_run (l := l) (fo := fo) (b := j) step_wrd _ (j + 1) [c] rfl r
  rw [upto_step e hw, List.singleton_append, ← take_head e hw] at r2
  refine ⟨clean_at r2 ?_, upto_gt e hw, upto_le (Nat.le_of_lt (lt_some e))⟩
  rw [leave_word_out (srt_nw fun d q => upto_stop q)]
  rfl
theorem piece_dots (C : Clean l j fo) (e : l[j]? = some 46) (e1 : l[j + 1]? = some 46) : Piece l fo j (.tok [.str (Str.ofString "sign"), .str (Str.ofString ".."), .int j] (j + 2)) := by
  obtain ⟨h, b, r⟩ := clean_step C
  rw [e, show srt (some 46) = Str.ofString "." by decide +kernel, out_dot] at r
  have r2 := run_next r neg1
  rw [step_in (by decide +kernel), e1, in_dot_y (by decide +kernel)] at r2
  exact ⟨clean_of r2, by omega, lt_some e1⟩
theorem piece_dot (C : Clean l j fo) (e : l[j]? = some 46) (e1 : l[j + 1]? ≠ some 46) : Piece l fo j (.bad j) := by
  obtain ⟨h, b, r⟩ := clean_step C
  rw [e, show srt (some 46) = Str.ofString "." by decide +kernel, out_dot] at r
  have r2 := run_next r neg1
  rw [step_in (by decide +kernel), in_dot_n (by rw [show Str.ofString "." = ⟨#[46]⟩ from rfl, sgn_eq]; exact decide_eq_false e1)] at r2
  have hj := lt_some e
  exact bad_at (i := j + 1 + 1) (by omega) (by rw [r2]) (by rw [r2])
theorem piece_mrk (C : Clean l j fo) (e : l[j]? = some c) (hd : isDig c = false) (hl : isLet c = false) (hb : isBlk c = false) (h : isMrk c = true) : Piece l fo j (.tok [.str (Str.ofString "sign"), .str ⟨#[c]⟩, .int j] (j + 1)) := by
  obtain ⟨h', b, r⟩ := clean_step C
  rw [e, srp_mrk hd hl hb h, out_mark] at r
  exact ⟨clean_of r, by omega, lt_some e⟩
theorem piece_odd (C : Clean l j fo) (e : l[j]? = some c) (hd : isDig c = false) (hl : isLet c = false) (hb : isBlk c = false) (h : isMrk c = false) (h34 : c ≠ 34) (h37 : c ≠ 37) (h45 : c ≠ 45) (h46 : c ≠ 46) : Piece l fo j (.bad j) := by
  obtain ⟨h', b, r⟩ := clean_step C
  rw [e, srt_one hd hl hb h, out_else (one_other (by decide +kernel)) (one_other (by decide +kernel)) (one_other (by decide +kernel)) (one_ne h37) (one_ne h46) (one_ne h45) (one_ne h34) (one_other (by decide +kernel)) (one_other (by decide +kernel))] at r
  have hj := lt_some e
  exact bad_at (i := j + 1) (by omega) (by rw [r]) (by rw [r])
def PieceQ (l : List Nat) (fo : List Dat) (j k : Nat) : QR → Prop
  | .ok acc k' => Clean l k' (fo ++ [.tuple [.str (Str.ofString "text"), .str (strOf acc), .int j]]) ∧ k < k' ∧ k' ≤ l.length
  | .slash s => Bad l fo s
  | .open_ => Bad l fo j
theorem PieceQ.back {q : QR} {k k' : Nat} (h : PieceQ l fo j k' q) (hk : k ≤ k') : PieceQ l fo j k q := by
  cases q with
  | ok acc k2 => exact ⟨h.1, by have := h.2.1; omega, h.2.2⟩
  | slash s => exact h
  | open_ => exact h
theorem is_q : isIn (Str.ofString "quote") = true := by decide +kernel
theorem is_s : isIn (Str.ofString "slash") = true := by decide +kernel
theorem nl_any : ∀ {o : Option Nat}, o = none ∨ o = some 10 → ([Str.ofString "", Str.ofString "\n"].any fun x => x == sgn o) = true := by
  rintro o (rfl | rfl) <;> decide +kernel
theorem sgn_no {o : Option Nat} {x : Str} (d : Nat) (hx : x = ⟨#[d]⟩) (h : o ≠ some d) : (sgn o == x) = false := by
  rw [hx, sgn_eq]; exact decide_eq_false h
theorem quo_run : ∀ n k acc, l.length - k ≤ n → k ≤ l.length → run l k = ⟨Str.ofString "quote", strOf acc, fo, (j : Nat), -1⟩ → PieceQ l fo j k (qscan l k acc) := by
  intro n
  induction n with
  | zero =>
    intro k acc hn hk e
    have q : l[k]? = none := List.getElem?_eq_none (by omega)
    rw [q_open (.inl q)]
    have r := run_next e neg1
    rw [step_in is_q, in_q_nl (nl_any (.inl q))] at r
    exact bad_at (i := k + 1) (by omega) (by rw [r]) (by rw [r])
  | succ n ih =>
    intro k acc hn hk e
    have r := run_next e neg1
    rw [step_in is_q] at r
    have opn : l[k]? = none ∨ l[k]? = some 10 → PieceQ l fo j k (qscan l k acc) := by
      intro q
      rw [q_open q]
      rw [in_q_nl (nl_any q)] at r
      exact bad_at (i := k + 1) (by omega) (by rw [r]) (by rw [r])
    cases q : l[k]? with
    | none => exact opn (.inl q)
    | some c =>
      have hlt := lt_some q
      by_cases h10 : c = 10
      · exact opn (.inr (by rw [q, h10]))
      by_cases h34 : c = 34
      · subst h34
        rw [q_end q]
        rw [q, in_q_end (by decide +kernel)] at r
        exact ⟨clean_of r, by omega, hlt⟩
      by_cases h92 : c = 92
      · subst h92
        rw [q, in_q_sl (by decide +kernel)] at r
        have r2 := run_next r neg1
        rw [step_in is_s] at r2
        have esc : ∀ d1 d2, l[k + 1]? = some d1 → (d1 = 110 ∧ d2 = 10 ∨ d1 = 34 ∧ d2 = 34 ∨ d1 = 92 ∧ d2 = 92) → run l (k + 1 + 1) = ⟨Str.ofString "quote", strOf (acc ++ [d2]), fo, (j : Nat), -1⟩ → PieceQ l fo j k (qscan l k acc) := by
          intro d1 d2 q1 hd hr
          rw [q_esc q q1 hd]
          have := lt_some q1
          exact (ih (k + 2) _ (by omega) (by omega) hr).back (by omega)
        by_cases a1 : l[k + 1]? = some 110
        · rw [a1, in_slash_a] at r2
          exact esc 110 10 a1 (.inl ⟨rfl, rfl⟩) (r2.trans (by rw [← strOf_snoc]; rfl))
        by_cases a2 : l[k + 1]? = some 34
        · rw [a2, in_slash_b (by decide +kernel) (by decide +kernel), strOf_snoc] at r2
          exact esc 34 34 a2 (.inr (.inl ⟨rfl, rfl⟩)) r2
        by_cases a3 : l[k + 1]? = some 92
        · rw [a3, in_slash_b (by decide +kernel) (by decide +kernel), strOf_snoc] at r2
          exact esc 92 92 a3 (.inr (.inr ⟨rfl, rfl⟩)) r2
        rw [q_bad q a1 a2 a3]
        have n1 := sgn_no (x := Str.ofString "n") 110 rfl a1
        have n2 := sgn_no (x := Str.ofString "\"") 34 rfl a2
        have n3 := sgn_no (x := Str.ofString "\\") 92 rfl a3
        rw [in_slash_c n1 (by
          simp only [List.any_cons, List.any_nil, Bool.or_false, Bool.or_eq_false_iff]
          exact ⟨str_beq_comm.trans n1, str_beq_comm.trans n2, str_beq_comm.trans n3⟩)] at r2
        exact bad_at (i := k + 1 + 1) (by omega) (by rw [r2]; show ((k + 1 : Nat) : Int) - 1 = k; omega) (by rw [r2])
      · rw [q_go q h34 h10 h92]
        rw [q, in_q_go (sgn_no 34 rfl fun w => h34 (Option.some.inj w)) (sgn_no 92 rfl fun w => h92 (Option.some.inj w)) (by
          simp only [List.any_cons, List.any_nil, Bool.or_false, Bool.or_eq_false_iff]
          exact ⟨str_beq_comm.trans (one_empty c), str_beq_comm.trans (sgn_no 10 rfl fun w => h10 (Option.some.inj w))⟩), strOf_snoc] at r
        exact (ih (k + 1) _ (by omega) hlt r).back (by omega)
theorem piece_quo (C : Clean l j fo) (e : l[j]? = some 34) : PieceQ l fo j (j + 1) (qscan l (j + 1) []) := by
  obtain ⟨h, b, r⟩ := clean_step C
  rw [e, show srt (some 34) = Str.ofString "\"" by decide +kernel, out_quote] at r
  exact quo_run _ (j + 1) [] (Nat.le_refl _) (lt_some e) r
theorem piece_at (C : Clean l j fo) (e : l[j]? = some c) (hb : isBlk c = false) (h37 : c ≠ 37) : Piece l fo j (stokAt l j c) := by
  unfold stokAt
  by_cases h34 : c = 34
  · subst h34
    rw [if_pos rfl]
    have := piece_quo C e
    revert this
    cases qscan l (j + 1) [] with
    | ok acc k => intro h; exact ⟨h.1, by have := h.2.1; omega, h.2.2⟩
    | slash s => intro h; exact h
    | open_ => intro h; exact h
  rw [if_neg h34]
  by_cases h45 : c = 45
  · subst h45
    rw [if_pos (.inl rfl)]
    exact piece_min C e
  cases hd : isDig c with
  | true =>
    rw [if_pos (.inr rfl)]
    have n45 : ¬ l[j]? = some 45 := by rw [e]; exact fun w => h45 (Option.some.inj w)
    rw [if_neg (by rw [numD, numS, if_neg n45, take_head e hd]; exact List.cons_ne_nil _ _)]
    exact piece_num C e hd
  | false =>
    rw [if_neg (by rintro (w | w); exact h45 w; cases w)]
    cases hl : isLet c with
    | true => rw [if_pos rfl]; exact piece_wrd C e hl
    | false =>
      rw [if_neg Bool.false_ne_true]
      by_cases h46 : c = 46
      · subst h46
        by_cases e1 : l[j + 1]? = some 46
        · rw [if_pos ⟨rfl, e1⟩]; exact piece_dots C e e1
        · rw [if_neg fun w => e1 w.2, if_neg (by decide +kernel)]; exact piece_dot C e e1
      · rw [if_neg fun w => h46 w.1]
        cases hm : isMrk c with
        | true => rw [if_pos rfl]; exact piece_mrk C e hd hl hb hm
        | false => rw [if_neg Bool.false_ne_true]; exact piece_odd C e hd hl hb hm h34 h37 h45 h46
end
end
end Mine
namespace Mine
section
section
variable {l : List Nat} {i j k c n m : Nat} {fo : List Dat}
def Uni (l : List Nat) : Prop := ∀ c ∈ l, c < 0x110000
theorem uni_of {x : Str} (h : PyData.strOk x = true) : Uni x.cps.toList := by
  intro c hc
  have := (Array.all_eq_true_iff_forall_mem.mp h) c (Array.mem_toList_iff.mp hc)
  simpa only [decide_eq_true_eq] using this
theorem uni_to {acc : List Nat} (h : Uni acc) : PyData.strOk (strOf acc) = true := by
  refine Array.all_eq_true_iff_forall_mem.mpr fun c hc => ?_
  rw [decide_eq_true_eq]
  exact h c (by simpa [strOf] using hc)
theorem leaf_str {acc : List Nat} (h : Uni acc) (hl : acc.length ≤ 400) : Leaf (.str (strOf acc)) := .inl ⟨_, rfl, by rw [strOf_length]; exact hl, uni_to h⟩
theorem big400 : 400 < 10 ^ 401 := by decide +kernel
theorem big401 : 10 ^ 400 < 10 ^ 401 := by decide +kernel
theorem leaf_spot (h : k ≤ 400) : Leaf (.int (k : Nat)) := .inr ⟨_, rfl, Nat.lt_of_le_of_lt h big400⟩
theorem leaf_lit {y : Str} (h : y.length ≤ 400 ∧ PyData.strOk y = true) : Leaf (.str y) := .inl ⟨_, rfl, h.1, h.2⟩
theorem uni_take {p : Nat → Bool} (h : Uni l) : Uni ((l.drop j).takeWhile p) := fun c hc => h c (List.mem_of_mem_drop ((List.takeWhile_sublist _).mem hc))
theorem take_len {p : Nat → Bool} : ((l.drop j).takeWhile p).length ≤ l.length := by
  have h1 := (List.takeWhile_sublist (l := l.drop j) p).length_le
  rw [List.length_drop] at h1
  omega
theorem dig_fold : ∀ (ds : List Nat) (a : Nat), NumText.AllDigits ds → ds.foldl (fun acc c => acc * 10 + (c - 48)) a < (a + 1) * 10 ^ ds.length
  | [], a, _ => by simp
  | c :: ds, a, h => by
    have hc : c ≤ 57 := (h c (.head _)).2
    have ih := dig_fold ds (a * 10 + (c - 48)) fun d hd => h d (.tail _ hd)
    rw [List.foldl_cons, List.length_cons, Nat.pow_succ, Nat.mul_comm (10 ^ ds.length) 10, ← Nat.mul_assoc]
    exact Nat.lt_of_lt_of_le ih (Nat.mul_le_mul_right _ (by omega))
theorem dig_small {ds : List Nat} (h : NumText.AllDigits ds) (hl : ds.length ≤ 400) : NumText.digitsVal ds < 10 ^ 401 := by
  have h1 : NumText.digitsVal ds < (0 + 1) * 10 ^ ds.length := dig_fold ds 0 h
  rw [Nat.zero_add, Nat.one_mul] at h1
  exact Nat.lt_trans (Nat.lt_of_lt_of_le h1 (Nat.pow_le_pow_right (by decide) hl)) big401
theorem leaf_num (hl : l.length ≤ 400) : Leaf (.int (numV l j)) := by
  have h := dig_small (takeDig_all (l.drop (numS l j))) (Nat.le_trans take_len hl)
  refine .inr ⟨_, rfl, ?_⟩
  unfold numV numD
  split
  · rw [Int.natAbs_neg, Int.natAbs_natCast]; exact h
  · rw [Int.natAbs_natCast]; exact h
def QS (l : List Nat) : QR → Prop
  | .ok acc _ => acc.length ≤ l.length ∧ Uni acc
  | .slash _ => True
  | .open_ => True
theorem uni_snoc {acc : List Nat} (h : Uni acc) (hc : c < 0x110000) : Uni (acc ++ [c]) := by
  intro d hd
  rcases List.mem_append.mp hd with hd | hd
  · exact h d hd
  · rw [List.mem_singleton.mp hd]; exact hc
theorem q_small (hu : Uni l) : ∀ n k acc, l.length - k ≤ n → k ≤ l.length → acc.length ≤ k → Uni acc → QS l (qscan l k acc) := by
  intro n
  induction n with
  | zero =>
    intro k acc hn hk _ _
    rw [q_open (.inl (List.getElem?_eq_none (by omega)))]; trivial
  | succ n ih =>
    intro k acc hn hk ha hA
    cases q : l[k]? with
    | none => rw [q_open (.inl q)]; trivial
    | some c =>
      have hlt := lt_some q
      by_cases h10 : c = 10
      · rw [q_open (.inr (by rw [q, h10]))]; trivial
      by_cases h34 : c = 34
      · subst h34
        rw [q_end q]; exact ⟨by omega, hA⟩
      by_cases h92 : c = 92
      · subst h92
        have esc : ∀ d1 d2, l[k + 1]? = some d1 → (d1 = 110 ∧ d2 = 10 ∨ d1 = 34 ∧ d2 = 34 ∨ d1 = 92 ∧ d2 = 92) → d2 < 0x110000 → QS l (qscan l k acc) := by
          intro d1 d2 q1 hd hr
          rw [q_esc q q1 hd]
          have := lt_some q1
          exact ih (k + 2) _ (by omega) (by omega) (by rw [List.length_append, List.length_singleton]; omega) (uni_snoc hA hr)
        by_cases a1 : l[k + 1]? = some 110
        · exact esc 110 10 a1 (.inl ⟨rfl, rfl⟩) (by decide)
        by_cases a2 : l[k + 1]? = some 34
        · exact esc 34 34 a2 (.inr (.inl ⟨rfl, rfl⟩)) (by decide)
        by_cases a3 : l[k + 1]? = some 92
        · exact esc 92 92 a3 (.inr (.inr ⟨rfl, rfl⟩)) (by decide)
        rw [q_bad q a1 a2 a3]; trivial
      · rw [q_go q h34 h10 h92]
        exact ih (k + 1) _ (by omega) hlt (by rw [List.length_append, List.length_singleton]; omega) (uni_snoc hA (hu c (List.mem_of_getElem? q)))
def TrOk : TR → Prop
  | .tok ds _ => TokOk (.tuple ds)
  | .bad _ => True
theorem stokAt_ok (hu : Uni l) (hl : l.length ≤ 400) (e : l[j]? = some c) : TrOk (stokAt l j c) := by
  have hj := lt_some e
  have hs : Leaf (.int (j : Nat)) := leaf_spot (by omega)
  unfold stokAt
  split
  · have := q_small hu _ (j + 1) [] (Nat.le_refl _) hj (Nat.zero_le _) (fun c h => absurd h List.not_mem_nil)
    revert this
    cases qscan l (j + 1) [] with
    | ok acc k => exact fun h => ⟨_, _, _, rfl, leaf_lit (by decide +kernel), leaf_str h.2 (by have := h.1; omega), hs⟩
    | slash s => exact fun _ => trivial
    | open_ => exact fun _ => trivial
  split
  · split
    · trivial
    · exact ⟨_, _, _, rfl, leaf_lit (by decide +kernel), leaf_num hl, hs⟩
  split
  · exact ⟨_, _, _, rfl, leaf_lit (by decide +kernel), leaf_str (uni_take hu) (Nat.le_trans take_len hl), hs⟩
  split
  · exact ⟨_, _, _, rfl, leaf_lit (by decide +kernel), leaf_lit (by decide +kernel), hs⟩
  split
  · exact ⟨_, _, _, rfl, leaf_lit (by decide +kernel), leaf_str (acc := [c]) (fun d hd => by rw [List.mem_singleton.mp hd]; exact hu c (List.mem_of_getElem? e)) (by show 1 ≤ 400; decide), hs⟩
  · trivial
theorem end_ok (h : j ≤ 400) : TokOk (.tuple [.str (Str.ofString "end"), .str (Str.ofString ""), .int (j : Nat)]) := ⟨_, _, _, rfl, leaf_lit (by decide +kernel), leaf_lit (by decide +kernel), leaf_spot h⟩
theorem stok_end (h : l[skipTo l i]? = none) : stok l i = .tok [.str (Str.ofString "end"), .str (Str.ofString ""), .int (skipTo l i)] (skipTo l i) := by
  rw [stok, h]
theorem skip_len : skipTo l l.length = l.length := by
  rw [skipTo, upto_nil (Nat.le_refl _), skip_no (by rw [List.getElem?_eq_none (Nat.le_refl _)]; simp)]
def Both (l : List Nat) : Prop :=
  (((run l (l.length + 1)).fault < 0 ∧ (laps l ((run l (l.length + 1)).found.length + 3)).toks = (run l (l.length + 1)).found ++ ends l.length ∧ (laps l ((run l (l.length + 1)).found.length + 3)).spot = (run l (l.length + 1)).fault) ∨
   (¬ (run l (l.length + 1)).fault < 0 ∧ (laps l ((run l (l.length + 1)).found.length + 3)).toks = (run l (l.length + 1)).found ∧ (laps l ((run l (l.length + 1)).found.length + 3)).spot = (run l (l.length + 1)).fault)) ∧
  ∀ d ∈ (laps l ((run l (l.length + 1)).found.length + 3)).toks, TokOk d
theorem ok_snoc {d : Dat} (h : ∀ d ∈ fo, TokOk d) (hd : TokOk d) : ∀ e ∈ fo ++ [d], TokOk e := by
  intro e he
  rcases List.mem_append.mp he with he | he
  · exact h e he
  · rw [List.mem_singleton.mp he]; exact hd
theorem lap_next {m k' : Nat} {fo ds : List Dat} (e : laps l m = ⟨i, fo, -1⟩) (q : stok l i = .tok ds k') : laps l (m + 1) = ⟨k', fo ++ [.tuple ds], -1⟩ := by
  have h := lap_tok (l := l) (i := m) (k' := k') (ds := ds) (by rw [e]; exact (by decide : (-1 : Int) < 0)) (by rw [e]; exact q)
  rw [h, e]
theorem lap_stop {m s : Nat} {fo : List Dat} (e : laps l m = ⟨i, fo, -1⟩) (q : stok l i = .bad s) : laps l (m + 1) = ⟨i, fo, s⟩ := by
  have h := lap_bad (l := l) (i := m) (j := s) (by rw [e]; exact (by decide : (-1 : Int) < 0)) (by rw [e]; exact q)
  rw [h, e]
theorem lap_stay {m s : Nat} {fo : List Dat} (e : laps l m = ⟨i, fo, s⟩) : laps l (m + 1) = ⟨i, fo, s⟩ := by
  rw [lap_end (by rw [e]; exact Int.not_lt.mpr (Int.natCast_nonneg s)), e]
theorem both_end (hl : l.length ≤ 400) (hi : i ≤ l.length) (e : laps l fo.length = ⟨i, fo, -1⟩) (hok : ∀ d ∈ fo, TokOk d) (q : l[skipTo l i]? = none) (E : End l fo) : Both l := by
  have hk : skipTo l i = l.length := none_len (skipFrom_le _ _ (upto_le hi)) q
  have s1 := stok_end q
  rw [hk] at s1
  have s2 := stok_end (l := l) (i := l.length) (by rw [skip_len]; exact List.getElem?_eq_none (Nat.le_refl _))
  rw [skip_len] at s2
  have l3 := lap_next (lap_next (lap_next e s1) s2) s2
  have hE := end_ok hl
  unfold Both
  rw [E.2, E.1]
  rw [l3]
  refine ⟨.inl ⟨by decide, ?_, rfl⟩, ok_snoc (ok_snoc (ok_snoc hok hE) hE) hE⟩
  simp only [List.append_assoc]
  rfl
theorem both_bad {s : Nat} (e : laps l fo.length = ⟨i, fo, -1⟩) (hok : ∀ d ∈ fo, TokOk d) (q : stok l i = .bad s) (E : Bad l fo s) : Both l := by
  have l3 := lap_stay (lap_stay (lap_stop e q))
  unfold Both
  rw [E.2, E.1]
  rw [l3]
  exact ⟨.inr ⟨Int.not_lt.mpr (Int.natCast_nonneg s), rfl, rfl⟩, hok⟩
theorem skipFrom_ge : ∀ j, j ≤ skipFrom l j := by
  intro j
  induction j using skipFrom.induct (l := l) with
  | case1 j h ih =>
    rw [← skip_yes h]
    exact Nat.le_trans (Nat.le_trans (upto_ge (p := noNl) (l := l)) (upto_ge (p := isBlk) (l := l))) ih
  | case2 j h => rw [skip_no h]; exact Nat.le_refl _
theorem both_from (hu : Uni l) (hl : l.length ≤ 400) : ∀ n i fo, l.length - i ≤ n → i ≤ l.length → laps l fo.length = ⟨i, fo, -1⟩ → (∀ d ∈ fo, TokOk d) → Clean l i fo → Both l := by
  intro n
  induction n with
  | zero =>
    intro i fo hn hi e hok C
    rcases clean_skip C hi with ⟨q, E⟩ | ⟨c, q, hb, h37, C'⟩
    · exact both_end hl hi e hok q E
    · have : i ≤ skipTo l i := Nat.le_trans (upto_ge (p := isBlk) (l := l)) (skipFrom_ge _)
      have := lt_some q
      omega
  | succ n ih =>
    intro i fo hn hi e hok C
    rcases clean_skip C hi with ⟨q, E⟩ | ⟨c, q, hb, h37, C'⟩
    · exact both_end hl hi e hok q E
    · have h1 : i ≤ skipTo l i := Nat.le_trans (upto_ge (p := isBlk) (l := l)) (skipFrom_ge _)
      have P := piece_at C' q hb h37
      have T := stokAt_ok hu hl q
      have st := stok_some q
      revert P T st
      cases stokAt l (skipTo l i) c with
      | tok ds k =>
        intro P T st
        refine ih k (fo ++ [.tuple ds]) (by have := P.2.1; omega) P.2.2 ?_ (ok_snoc hok (show TokOk (.tuple ds) from T)) P.1
        rw [List.length_append, List.length_singleton]
        exact lap_next e st
      | bad s => intro P T st; exact both_bad e hok st P
theorem both (hu : Uni l) (hl : l.length ≤ 400) : Both l := by
  refine both_from hu hl _ 0 [] (Nat.le_refl _) (Nat.zero_le _) rfl (fun d h => absurd h List.not_mem_nil) ?_
  exact ⟨Str.ofString "", 0, by show (-1 : Int) < 0; decide, leave_clean⟩
end
theorem both_str {x : Str} {tl : List (Addr × Obj)} {vs : List Value} (hx : x.length ≤ 400) (ho : PyData.strOk x = true) (hD : DatAll tl vs (run x.cps.toList (x.length + 1)).found) :
    ((((run x.cps.toList (x.length + 1)).fault < 0 ∧ (laps x.cps.toList (vs.length + 3)).toks = (run x.cps.toList (x.length + 1)).found ++ ends x.length ∧ (laps x.cps.toList (vs.length + 3)).spot = (run x.cps.toList (x.length + 1)).fault) ∨
      (¬ (run x.cps.toList (x.length + 1)).fault < 0 ∧ (laps x.cps.toList (vs.length + 3)).toks = (run x.cps.toList (x.length + 1)).found ∧ (laps x.cps.toList (vs.length + 3)).spot = (run x.cps.toList (x.length + 1)).fault)) ∧
    ∀ d ∈ (laps x.cps.toList (vs.length + 3)).toks, TokOk d) := by
  have h := both (uni_of ho) (by rw [len_list]; exact hx)
  unfold Both at h
  rw [len_list] at h
  rw [hD.length]
  exact h
end
end Mine
namespace Mine
section
set_option maxHeartbeats 1000000
section
variable {prog : Program} {w : World} {A₀ : Around} {E : Value → Shared → Prop} {s' : Shared} {h₀ h : Heap} {outer : List Env} {L a e d : Addr} {m : Str → Option Value} {name : Str} {scope : Scope} {cd : Value}
  {n : Str} {b₀ : Stmt} {suite : List Stmt} {pos np : Pos} {rest : List ExceptHandler} {Q : Flow → Shared → Prop} {news : Led} {p : Program} {loose : List Str} {mg mb : Str → Option Value} {x : Str}
theorem caught_fault (K : Below A₀ h₀ outer h₀) (F : Fr h₀ L h m) (hsm : h.UpToSlots s'.heap) (R : RaisedF h₀ (envOf name scope L a cd :: outer) e d news s'.heap)
    (X : (hd.heap_39 w.params).In h₀) (T : TopRead p loose mg mb h₀) (ex : nsIn (hd.heap_39 w.params) mainGlobals x = some (some (.ref 81)))
    (k : ∀ h' oe tk, Fr h₀ L h' (fun y => if y = n then some (.ref e) else m y) → News h₀ L h' ((e, oe) :: news) → PF d oe → notCls oe = true →
      wpAny (model prog w) ((A₀.deeper (envOf name scope L a cd)).mark (some (.ref e))) (execs (b₀ :: suite) (envOf name scope L a cd))
        (fun f s₄ => wpAny (model prog w) (A₀.deeper (envOf name scope L a cd)) (do bindName (envOf name scope L a cd) n .none; unbindBehindTheSuite (envOf name scope L a cd) n pos) (fun _ s₅ => Q f s₅) E s₄)
        (AsSuiteRaised (model prog w) ((A₀.deeper (envOf name scope L a cd)).mark (some (.ref e))) (envOf name scope L a cd) n pos (notedBy (model prog w) ((A₀.deeper (envOf name scope L a cd)).mark (some (.ref e))) (envOf name scope L a cd) (cameBackBy (model prog w) (A₀.deeper (envOf name scope L a cd)) (envOf name scope L a cd) E)))
        { s' with heap := h', toks := tk })
    (hk : scope.kind = .function := by rfl) (hlo : (envOf name scope L a cd).kindOf n = some .local := by rfl) (hx : (envOf name scope L a cd).kindOf x = some .globalImplicit := by rfl) (hdb : (x == ("__debug__" : Str)) = false := by decide) :
    wpAny (model prog w) (A₀.deeper (envOf name scope L a cd)) (noteFrame (.ref e) (envOf name scope L a cd))
      (fun _ s₂ => wpAny (model prog w) (A₀.deeper (envOf name scope L a cd)) (setFlight (.ref e) none) (fun _ s₃ =>
        wpAny (model prog w) (A₀.deeper (envOf name scope L a cd)) (handleBy (.ref e) (envOf name scope L a cd) (.ExceptHandler (some (.Name x np)) (some n) (b₀ :: suite) pos :: rest)) Q E s₃) E s₂) E s' := by
  obtain ⟨B, hB, hl, W⟩ := R
  have hL : B.get? L = none := by
    obtain ⟨_, ⟨L', _, hf, hn', _⟩, _⟩ := W.frames
    obtain rfl : L = L' := Option.some.inj hf
    exact hn'
  have st : ∀ {h' : Heap}, B.StaysIn h' → h₀.StaysIn h' := fun z b o q => z b o (hB b o q)
  refine way_note (lasts_PF d) (Around.frames_deeper K.stack) rfl W fun h₄ W₄ U₄ => ?_
  refine way_lands (s := { s' with heap := h₄ }) W₄ fun h₅ W₅ U₅' => ?_
  have U₅ := U₄.trans U₅'
  have F₅ := F.of_stays (st W₅.stays) (hsm.trans U₅)
  obtain ⟨oe, vs, Tb, oT, ts, he, hPe, hde, -⟩ := W₅.borne
  refine wpAny_handleBy_cons (codeAny_handlers_test (name_K F₅ X T ex ?_ hk hx hdb)) (by intro q; cases q)
  obtain ⟨nm, qn, NN, bs, hdct, sn, sub, ab, col, dc, k0, k1, k2, k3, k5, hC⟩ := cls81 (X.keeps F₅.keep)
  refine wpAny_excMatches_sub_self hC he hPe.1 (by decide +kernel) (codeAny_handlers_suite_as ?_)
  refine way_lands (s := { s' with heap := h₅, toks := _ }) W₅ fun h₆ W₆ U₆ => ?_
  have F₆ := F.of_stays (st W₆.stays) ((hsm.trans U₅).trans U₆)
  obtain ⟨oe', vs', Tb', oT', ts', he', hPe', hde', -⟩ := W₆.borne
  have Nl : News h₀ L h₆ news := fun q hq => ⟨W₆.stays _ _ (hl q hq).1, (fun z => by have := (hl q hq).1; rw [z, hL] at this; cases this), (hl q hq).2⟩
  have N₆ := News.more F₆ Nl he' (fun es n q => by rw [hde'] at q; cases q) (fresh_of_stays hB W₆.new)
  refine stN F₆ N₆ (fun h₇ F₇ N₇ => ?_) hk hlo
  exact k h₇ oe' _ F₇ N₇ hPe' (by unfold notCls; rw [hde'])
end
end
end Mine
namespace Mine
section
set_option maxHeartbeats 1000000
theorem f81_hook (P : Params) : findIn (hd.heap_39 P) (.ref 81) "__getattr__" = some none := by kernel_rfl
theorem f81_base (P : Params) : mroIn (hd.heap_39 P) 81 (.type "BaseException") = some true := by kernel_rfl
section
variable {prog : Program} {w : World} {A : Around} {E : Value → Shared → Prop} {s : Shared} {K : Frag} {x C : Addr} {ox : Obj} {od : Option Obj} {name : Str} {expr : Bool} {Q : Value → Shared → Prop} {v : Value}
theorem exc_get (X : K.In s.heap) (I : InstAt s.heap x ox C od) (hga : findIn K (.ref C) "__getattribute__" = some (some (.builtin "BaseException.__getattribute__"))) (hgb : findIn K (.ref C) "__getattr__" = some none) (hb : mroIn K C (.type "BaseException") = some true)
    (hf : findObj K C od name = some (.value v)) (hh : handedIn v = true) (h : Q v { s with toks := s.toks + 1 }) : wpAny (model prog w) A (getAttr (.ref x) name expr) Q E s := by
  have FX := PySem.F.attr_Exception
  have f3 := FX.ga.bind (.ref x)
  have hx0 : (expr && onTheHeap (Value.builtin "BaseException.__getattribute__")) = false := by cases expr <;> rfl
  have hx2 : (Value.builtin "BaseException.__getattribute__" == Value.builtin "object.__getattribute__") = false := by decide +kernel
  have hx1 : (onTheHeap (Value.ref C) && Value.builtin "BaseException.__getattribute__" == Value.builtin "object.__getattribute__") = false := by rw [hx2]; rfl
  have hk : builtinKind "BaseException.__getattribute__" = some .slot := by decide +kernel
  have hsplit : splitId "BaseException.__getattribute__" = some ("BaseException", "__getattribute__") := by decide +kernel
  have L0 := I.type (M := model prog w)
  have L1 := looks_findIn (M := model prog w) X hga
  have L2 := looks_findIn (M := model prog w) X hgb
  have L3 := looks_find (M := model prog w) X I hf
  have sub : Looks (model prog w) s.heap (isInstance (.ref x) (.type "BaseException")) true := I.type.andThen (looks_mroIn X hb)
  obtain ⟨hp, g, d, t, os⟩ := s
  unfold getAttr getAttrBy
  refine wpAny_bind (wpAny_mkText (wpAny_holding (wpAny_bind (L0.at (wpAny_bind (L1.at ?_))))))
  dsimp only
  rw [hx1]
  simp only [Bool.false_eq_true, if_false]
  unfold getAttrByItsOwn hookBefore callGetattribute boundAndCalled
  refine wpAny_bind (L2.at ?_)
  refine wpAny_bind (wpAny_attempt (wpAny_holding ?_))
  rw [hx0]
  simp only [Bool.false_eq_true, if_false]
  rw [f3]
  refine wpAny_bind (wpAny_pure ?_)
  refine wpAny_call (codeAny_call_builtin FX.ga.plain PySem.F.entry_bexc_ga (@check_slot (model prog w) _ _ ⟨hp, g, d, t + 1, os⟩ "BaseException.__getattribute__" "BaseException" "__getattribute__" (.ref x) [.str name t] [] _ hk hsplit sub (PySem.F.args_bexc_ga _ _) ?_))
  show wpAny _ _ (Builtin.«object.__getattribute__» ⟨[.ref x, .str name t], []⟩) _ _ _
  refine wpAny_bind (wpAny_pure (wpAny_bind (wpAny_pure (wpAny_bind (L0.at (wpAny_bind (L3.at ?_)))))))
  refine wpAny_pure ?_
  show wpAny _ _ (handedOut v) _ _ _
  rw [handedOut_of hh]; exact wpAny_pure h
end
section
variable {prog : Program} {w : World} {A : Around} {E : Value → Shared → Prop} {s : Shared} {h₀ : Heap} {L e d : Addr} {m : Str → Option Value} {news : Led} {expr : Bool} {Q : Value → Shared → Prop} {oe : Obj} {wv : Value} {i : Int} {kw ks ti : Tok}
theorem get_spot (F : Fr h₀ L s.heap m) (X₀ : (hd.heap_39 w.params).In h₀) (N : News h₀ L s.heap news) (he : (e, oe) ∈ news) (hP : PF d oe) (hn : notCls oe = true) (hdd : (d, dictOf [whatE w.params kw wv, spotE w.params ks (.int i ti)] 2) ∈ news)
    (h : Q (.int i ti) { s with toks := s.toks + 1 }) : wpAny (model prog w) A (getAttr (.ref e) "spot" expr) Q E s := by
  have I : InstAt s.heap e oe 81 (some (dictOf [whatE w.params kw wv, spotE w.params ks (.int i ti)] 2)) := ⟨(N _ he).1, hP.1, hn, by rw [hP.2]; exact (N _ hdd).1⟩
  obtain ⟨cd, hc, hmro, hh⟩ := cd81 w.params
  refine exc_get (X₀.keeps F.keep) I (f81_get _) (f81_hook _) (f81_base _) (findObj_own (attr := none) (by unfold hasDictIn; rw [hc]; exact hh) (f81_spot _) (by rfl) (by rfl)) (by rfl) h
end
end
end Mine
namespace Mine
section
theorem fresh_LawS : True := by w_top off; trivial
set_option maxHeartbeats 2000000
local macro_rules | `(tactic| k_all) => `(tactic| assumption)
local macro_rules | `(tactic| walk_at "own lt_of") => `(tactic| (first | assumption | (rename @LT.lt Nat _ _ _ ∧ _ => nn; with_reducible first | exact nn.1 | exact nn.2.1 | exact nn.2.2 | exact nn.2.2.1 | exact nn.2.2.2 | exact nn.2.2.2.1 | exact nn.2.2.2.2 | exact nn.2.2.2.2.1 | exact nn.2.2.2.2.2)))
local macro_rules | `(tactic| walk_at "call ref") => `(tactic| (k_here; k_dflt (first
  | (refine' text_use ?hI ?hn ?B ?F ?X ?N ?T ?hk ?hd ?hu ?hl ?_; (case B => k_asm); (case F => k_asm); (case X => k_asm); (case N => k_asm); (case T => k_asm); (case hk => exact rfl); (case hd => ktr_room); (case hu => ktr_units); (case hl => assumption); (case hI => assumption); (case hn => omega); intro x9 t9 h9 tk9 hx9 F9 N9; (have ho9 := hx9.2); (replace hx9 := hx9.1))
  | (refine' spec_use (machine_spec _ _ _ _ _ _ ?hx) ?B ?F ?X ?N ?T ?hk ?hd ?hu ?_; (case B => k_asm); (case F => k_asm); (case X => k_asm); (case N => k_asm); (case T => k_asm); (case hk => exact rfl); (case hd => ktr_room); (case hu => ktr_units); (case hx => assumption); intro v9 n9 h9 tk9 P9 F9 N9; obtain ⟨T9, lF9, vs9, k9, tf9, tl9, e8, e9, D9⟩ := P9; subst e8; subst e9; have hv9 := found_len D9 (by assumption))
  | (refine' spec_useX (token_spec _ _ _ _ _ _ _ _ _ _ _ _ ?hi ?hx _ ?ne ?off) ?B ?F ?X ?N ?T ?hk ?hd ?hu ?_ ?_; (case B => k_asm); (case F => k_asm); (case X => k_asm); (case N => first | k_asm | (rename News _ _ _ _ => NN; have N8 := cb_tail NN; first | k_asm | (have N7 := cb_tail N8; k_asm))); (case T => k_asm); (case hi => assumption); (case hx => assumption); (case ne => assumption); (case off => exact off_cons (by assumption) (off_cons (by assumption) (by assumption))); (case hk => first | exact rfl | assumption); (case hd => ktr_room); (case hu => ktr_units); rotate_left; (intro e9 d9 n9 h9 tk9 g9 xp9 F9 U9 R9); rotate_left; intro v9 n9 h9 tk9 P9 F9 N9; obtain ⟨ds9, k9, T9, ws9, t9, st9, kl9, e8, e9, D9, lt9⟩ := P9; subst e8; subst e9; (have lf9 := lt9 _ (List.Mem.head _)); (have lg9 := lt9 _ (List.Mem.tail _ (List.Mem.head _))); dsimp only at lf9 lg9)); (try dsimp only); (try k_fold)))
local macro_rules | `(tactic| walk_at "call builtin:len") => `(tactic| (k_here; (with_reducible show wpAny _ _ (call _ [Value.ref _]) _ _ _); k_dflt (refine' len_led ?N ?m ?b ?_; (case N => k_asm); (case m => k_mem); (case b => omega))))
local macro_rules | `(tactic| walk_at "exec For Name Call cons nil") => `(tactic| (k_here; (rename Fr _ _ _ _ => lF'); (with_unfolding_all refine' For_invVF lF' ?k1 ?k2 ?_; (case k1 => exact rfl); (case k2 => exact rfl); k_whole)))
local macro_rules | `(tactic| walk_at "pyIter ref") => `(tactic| (refine Stop.of ?_))
local macro_rules | `(tactic| walk_at "call builtin:list.append") => `(tactic| ((with_reducible show wpAny _ _ (call _ (_ ++ _)) _ _ _); (simp only [List.cons_append, List.nil_append]); walk_at "call builtin:list.append"))
local macro_rules | `(tactic| walk_at "noteFrame ref") => `(tactic| (k_here; (rename RaisedF _ _ _ _ _ _ => rkX); (rename ∃ j, _ ∧ XF _ _ _ _ _ => xp9); obtain ⟨j9, st9, kw9, ks9, wv9, ti9, e9⟩ := xp9; subst e9; k_dflt (refine' caught_fault ?K ?F ?U rkX ?X ?T ?ex ?_; (case K => k_asm); (case F => assumption); (case U => assumption); (case X => k_asm); (case T => k_asm); (case ex => first | k_is | kernel_rfl)); intro h' oe tk F' N' hP' hn'))
local macro_rules | `(tactic| walk_at "bind") => `(tactic| ((with_reducible show wpAny _ _ (do bindName (envOf _ _ _ _ _) _ Value.none; unbindBehindTheSuite (envOf _ _ _ _ _) _ _) _ _ _); k_dflt (refine' name_goes_keeps ?F ?N ?_; (case F => k_asm); (case N => k_asm)); intro _ _ _ _))
local macro_rules | `(tactic| walk_at "getAttr ref") => `(tactic| (k_here; k_dflt (refine' get_spot ?F ?X ?N ?he ?hP ?hn ?hdd ?_; (case F => k_asm); (case X => k_asm); (case N => k_asm); (case he => k_mem); (case hP => assumption); (case hn => assumption); (case hdd => k_mem))))
local macro_rules | `(tactic| walk_at "call builtin:repr") => `(tactic| (refine Stop.of ?_))
local macro_rules | `(tactic| walk_at "binaryOp Mult ref int") => `(tactic| (k_here; k_dflt (refine' KMa.mul (vs := [_]) (ws := [_, _, _]) ?F ?N ?l ?lo ?hi ?z ?e ?_; (case F => k_asm); (case N => k_asm); (case l => exact News.isList (by k_asm) (by k_mem)); (case lo => decide); (case hi => decide); (case z => exact Nat.le_of_ble_eq_true rfl); (case e => exact rfl)); intro D' h' F' N' l1; (try k_lt l1)))
theorem tst : PySem.Challenge.rw_nz0006_01.Holds := hd (by rfl) (by rfl) (by rfl) (by
  w_strict (
    k_fill
    intro w s₀ s₁ mg mb G Y fa o pm cd doc dV kV ho hdd hcd hD hmg hg args vals as hpre hlay hrd hwl hlo
    have KX := kIn_of Y
    have X := (Ground.X G).1
    refine Ground.open G ?_
    intro T B D TE TW
    refine guard_noD D (by decide +kernel) ?_
    clear D
    obtain ⟨_, _, M⟩ := bmod_of_top T
    have TA := at_of_top T
    obtain ⟨_, _, he, B0⟩ := based_of_top T rfl hmg ho hdd
    have he' : cd = _ := he
    subst he'
    clear he hmg
    wrow_args hpre hlay hrd hwl hlo
    refine enter_call ?_
    w_top on
    refine codeAny_mono ?_ (fun _ _ g => GoodW.toG g)
    have K0 := below_caller (Top.heap T)
    w_call any ho hdd hcd hD T F
    clear hdd TA
    k_drop
    (all_goals try k_fold)
    k_steps
    unfold Stop
    (rename World => wX); (rename List Value => vs9); (rename PySem.Str => x9)
    (rename Fr _ _ _ _ => F₂); (rename News _ _ _ _ => N₂); (rename IsRange _ _ _ _ _ _ _ _ => hR); (rename DatAll _ _ _ => D9); (rename _ ≤ 400 => hx9); (rename PyData.strOk _ = true => ho9); (rename _ ≤ 1000 => hv9)
    (rename @LT.lt Nat _ _ _ ∧ @LT.lt Nat _ _ _ ∧ AllLt _ _ => q1); (rename @LT.lt Nat _ _ _ => q3); (rename @LT.lt Nat _ _ _ ∧ @LT.lt Nat _ _ _ ∧ @LT.lt Nat _ _ _ ∧ @LT.lt Nat _ _ _ ∧ AllLt _ _ => q2)
    refine range_cut (vs9.length + 3) (LJ wX _ _ _ _ _ _ _ _ _ _) (LJ wX _ _ _ _ _ _ _ _ _ _ _) (by rfl) (by rfl) hR (small_one (by decide) (by decide) (by omega) (by omega)) (by rw [rangeSize_one, if_pos (by omega)]; omega) F₂ (cb_drop N₂ (by walk_at "own k_subset")) ⟨[], 0, _, _, .nil, D9, fun p hp => Nat.ne_of_lt (ktn_ltOf q1.2.2 p hp), fun p hp => Nat.ne_of_lt (ktn_ltOf q2.2.2.2.2 p hp), ⟨rfl, rfl, rfl, rfl, rfl, rfl, trivial⟩, .inl ⟨laps0 _, Nat.zero_le _, _, _, _, _, rfl⟩⟩ ?_ (fun _ _ h => h) ?_
    · rintro i t m₁ nx h₁ tk₁ own hi hoff ⟨us, un, tl, ts, hU, hD, offS, offL, hp, hcase⟩ F₁ N₁
      replace F₁ := fr_pins F₁ (l := [(Str.ofString "text", _), (Str.ofString "due", _), (Str.ofString "fault", _), (Str.ofString "scanner", _), (Str.ofString "found", _), (Str.ofString "spot", _)]) ⟨hp.1, hp.2.1, hp.2.2.1, hp.2.2.2.1, hp.2.2.2.2.1, hp.2.2.2.2.2.1, trivial⟩
      have hul : us.length ≤ 1010 := by rw [hU.length]; have := laps_len x9.cps.toList i; omega
      rcases hcase with ⟨hs, hk9, kt, ks, t', ti, rfl⟩ | ⟨hs, rfl⟩
      · have ne9 := Nat.ne_of_gt q3
        have o1 := Nat.ne_of_gt q2.2.1
        have o2 := Nat.ne_of_lt q1.2.1
        have o3 : ∀ p ∈ tl ++ own, p.1 ≠ _ := fun p hp => (List.mem_append.mp hp).elim (offS p) (OwnOff.ne hoff (.tail _ (.head _)) p)
        have o4 : ∀ p ∈ tl ++ own, p.1 ≠ _ := fun p hp => (List.mem_append.mp hp).elim (offL p) (OwnOff.ne hoff (.tail _ (.tail _ (.head _))) p)
        simp only [List.cons_append] at N₁
        k_steps
        · (rename Fr _ _ _ _ => FF); (rename News _ _ _ _ => NN)
          exact law_tok hs hU hD offS offL hoff (by assumption) (by assumption) (by assumption) (by assumption) FF NN ⟨rfl, rfl, rfl, rfl, rfl, rfl, trivial⟩
        · (rename Fr _ _ _ _ => FF); (rename News _ _ _ _ => NN)
          exact law_bad hs hU hD offS offL hoff (by assumption) FF NN (fun p hp => .tail _ (.tail _ hp)) ⟨rfl, rfl, rfl, rfl, rfl, rfl, trivial⟩
      · k_steps
        (rename Fr _ _ _ _ => FF); (rename News _ _ _ _ => NN)
        exact law_end hs hU hD offS offL hoff FF NN (fun _ h => h) ⟨rfl, rfl, rfl, rfl, rfl, rfl, trivial⟩
    · rintro h₉ tk₉ m₉ nx₉ F₉ N₉ J₉
      obtain ⟨nx', ⟨us, un, tl, ts, hU, hD, hp, rfl⟩, hsub⟩ := LJ.out J₉
      replace N₉ := cb_drop N₉ hsub
      replace F₉ := fr_pins F₉ hp
      clear F₂ N₂ hR J₉ hsub D9 q1 q2 q3
      obtain ⟨law9, ok9⟩ := both_str hx9 ho9 hD
      have len9 := laps_len x9.cps.toList (vs9.length + 3)
      (try dsimp only)
      rcases law9 with ⟨hf, ht, hs⟩ | ⟨hf, ht, hs⟩
      · rw [hs] at F₉
        rw [ht] at hU ok9 len9
        k_steps
        unfold Stop
        (rename Fr _ _ _ _ => FF); (rename News _ _ _ _ => NN)
        refine repr_dat FF NN (by k_mem) (DatAll.mono (by walk_at "own k_tails") hU) ok9 (by omega) (by with_unfolding_all rfl) (by ktr_units) fun h7 u7 tk7 F7 N7 => ?_
        clear FF NN
        k_steps
        unfold Stop
        refine repr_dat F7 N7 (.head _) (DatAll.append (DatAll.mono (by walk_at "own k_tails") hD) (ends_dat (by k_mem))) ok9 (by omega) (by with_unfolding_all rfl) (by ktr_units) fun h8 u8 tk8 F8 N8 => ?_
        k_steps
        done
      · rw [hs] at F₉
        rw [ht] at hU ok9 len9
        k_steps
        unfold Stop
        (rename Fr _ _ _ _ => FF); (rename News _ _ _ _ => NN)
        refine repr_dat FF NN (.head _) (DatAll.mono (by walk_at "own k_tails") hU) ok9 (by omega) (by with_unfolding_all rfl) (by ktr_units) fun h7 u7 tk7 F7 N7 => ?_
        clear FF NN
        k_steps
        unfold Stop
        refine repr_dat F7 N7 (by k_mem) (DatAll.mono (by walk_at "own k_tails") hD) ok9 (by omega) (by with_unfolding_all rfl) (by ktr_units) fun h8 u8 tk8 F8 N8 => ?_
        k_steps
        done))
end
end Mine
theorem PySem.Challenge.cw_nz0006_01_holds : PySem.Challenge.rw_nz0006_01.Holds :=
  Mine.tst
